import Derived.Test.YtbjpcbghchfifaaGreatDoorYRttSpec
set_option linter.all false
namespace Go.Sx.T
open Go Go.Sx
def RttSteady_9_B  {α : Type} (kx : Nat → List Leaf → Option α) (kr : List Leaf → Option α) (again : Bool → Int → Int → Int → Int → Int → Int → Option α) (r_any : Bool) (r_smooth : Int) (r_spread : Int) (r_rto : Int) (i : Int) (d : Int) (n2 : Int) : Option α :=
  one (remI .i64 n2 60) fun x677 =>
  one (addI .i64 x677 60) fun x678 =>
  one (remI .i64 x678 60) fun x679 =>
  one (addI .i64 1 x679) fun x680 =>
  br (decide (i < x680))
    (out (rtt_Sample r_any r_smooth r_spread r_rto d) fun r681 =>
     un_b r681 fun x682 r683 =>
     un_i r683 fun x684 r685 =>
     un_i r685 fun x686 r687 =>
     un_i r687 fun x688 r689 =>
     un_nil r689 <|
     out (rtt_Smooth x682 x684 x686 x688) fun r690 =>
     un_i r690 fun x691 r692 =>
     un_b r692 fun x693 r694 =>
     un_nil r694 <|
     br (!x693)
       (kr [.b (false)])
       (br (x691 != d)
          (kr [.b (false)])
          (out (rtt_Rto x682 x684 x686 x688) fun r695 =>
           un_i r695 fun x696 r697 =>
           un_nil r697 <|
           one (maxI d 200000) fun x698 =>
           one (minI x698 64000000) fun x699 =>
           br (decide (x696 < x699))
             (kr [.b (false)])
             (one (addI .i64 i 1) fun x700 =>
              again (x682) (x684) (x686) (x688) (x700) (d) (n2)))))
    (kx 0 [.b (r_any), .i (r_smooth), .i (r_spread), .i (r_rto), .i (d)])
def RttSteady_9_L {α : Type} (kx : Nat → List Leaf → Option α) (kr : List Leaf → Option α) : Nat → Bool → Int → Int → Int → Int → Int → Int → Option α
  | 0, _, _, _, _, _, _, _ => none
  | n + 1, r_any, r_smooth, r_spread, r_rto, i, d, n2 => RttSteady_9_B  kx kr (RttSteady_9_L kx kr n) r_any r_smooth r_spread r_rto i d n2
def RttSteady_9_F (L9 : ({β : Type} → (Nat → List Leaf → Option β) → (List Leaf → Option β) → Nat → Bool → Int → Int → Int → Int → Int → Int → Option β)) {α : Type} (n : Nat) (ls : List Leaf) (kx : Nat → List Leaf → Option α) (kr : List Leaf → Option α) : Option α := un_b ls fun r_any rr => un_i rr fun r_smooth rr => un_i rr fun r_spread rr => un_i rr fun r_rto rr => un_i rr fun i rr => un_i rr fun d rr => un_i rr fun n2 rr => un_nil rr (L9 kx kr n r_any r_smooth r_spread r_rto i d n2)
def RttSteady_16_B  {α : Type} (kx : Nat → List Leaf → Option α) (kr : List Leaf → Option α) (again : Bool → Int → Int → Int → Int → Int → Option α) (r_any : Bool) (r_smooth : Int) (r_spread : Int) (r_rto : Int) (i : Int) (d : Int) : Option α :=
  br (decide (i < 60))
    (out (rtt_Sample r_any r_smooth r_spread r_rto d) fun r763 =>
     un_b r763 fun x764 r765 =>
     un_i r765 fun x766 r767 =>
     un_i r767 fun x768 r769 =>
     un_i r769 fun x770 r771 =>
     un_nil r771 <|
     one (addI .i64 i 1) fun x772 =>
     again (x764) (x766) (x768) (x770) (x772) (d))
    (kx 2 [.b (r_any), .i (r_smooth), .i (r_spread), .i (r_rto), .i (d)])
def RttSteady_16_L {α : Type} (kx : Nat → List Leaf → Option α) (kr : List Leaf → Option α) : Nat → Bool → Int → Int → Int → Int → Int → Option α
  | 0, _, _, _, _, _, _ => none
  | n + 1, r_any, r_smooth, r_spread, r_rto, i, d => RttSteady_16_B  kx kr (RttSteady_16_L kx kr n) r_any r_smooth r_spread r_rto i d
def RttSteady_16_F (L16 : ({β : Type} → (Nat → List Leaf → Option β) → (List Leaf → Option β) → Nat → Bool → Int → Int → Int → Int → Int → Option β)) {α : Type} (n : Nat) (ls : List Leaf) (kx : Nat → List Leaf → Option α) (kr : List Leaf → Option α) : Option α := un_b ls fun r_any rr => un_i rr fun r_smooth rr => un_i rr fun r_spread rr => un_i rr fun r_rto rr => un_i rr fun i rr => un_i rr fun d rr => un_nil rr (L16 kx kr n r_any r_smooth r_spread r_rto i d)
def RttSteady_d (L9 : ({β : Type} → (Nat → List Leaf → Option β) → (List Leaf → Option β) → Nat → Bool → Int → Int → Int → Int → Int → Int → Option β)) (L16 : ({β : Type} → (Nat → List Leaf → Option β) → (List Leaf → Option β) → Nat → Bool → Int → Int → Int → Int → Int → Option β)) (d : Int) (n2 : Int) : Option (List Leaf) :=
  br (decide (d < 0))
    (one (addI .i64 d 1) fun x773 =>
     one (subI .i64 0 x773) fun x774 =>
     one (remI .i64 x774 64000001) fun x775 =>
     out (rtt_New) fun r776 =>
     un_b r776 fun x777 r778 =>
     un_i r778 fun x779 r780 =>
     un_i r780 fun x781 r782 =>
     un_i r782 fun x783 r784 =>
     un_nil r784 <|
     L9
       (fun i785 r786 =>
        br (Nat.beq 0 i785)
          (un_b r786 fun x787 r788 =>
           un_i r788 fun x789 r790 =>
           un_i r790 fun x791 r792 =>
           un_i r792 fun x793 r794 =>
           un_i r794 fun x795 r796 =>
           un_nil r796 <|
           L16
             (fun i797 r798 =>
              br (Nat.beq 2 i797)
                (un_b r798 fun x799 r800 =>
                 un_i r800 fun x801 r802 =>
                 un_i r802 fun x803 r804 =>
                 un_i r804 fun x805 r806 =>
                 un_i r806 fun x807 r808 =>
                 un_nil r808 <|
                 out (rtt_Rto x799 x801 x803 x805) fun r809 =>
                 un_i r809 fun x810 r811 =>
                 un_nil r811 <|
                 one (addI .i64 x807 1000) fun x812 =>
                 one (minI x812 64000000) fun x813 =>
                 one (maxI 200000 x813) fun x814 =>
                 br (x810 == x814)
                   (some [.b (true)])
                   (out (rtt_Rto x799 x801 x803 x805) fun r815 =>
                    un_i r815 fun x816 r817 =>
                    un_nil r817 <|
                    one (addI .i64 x807 32) fun x818 =>
                    some [.b (decide (x816 ≤ x818))]))
                (none))
             (fun r819 =>
              un_nil r819 <|
              none)
             top (x787) (x789) (x791) (x793) (0) (x795))
          (none))
       (fun r820 =>
        un_b r820 fun x821 r822 =>
        un_nil r822 <|
        some [.b (x821)])
       top (x777) (x779) (x781) (x783) (0) (x775) (n2))
    (one (remI .i64 d 64000001) fun x823 =>
     out (rtt_New) fun r824 =>
     un_b r824 fun x825 r826 =>
     un_i r826 fun x827 r828 =>
     un_i r828 fun x829 r830 =>
     un_i r830 fun x831 r832 =>
     un_nil r832 <|
     L9
       (fun i833 r834 =>
        br (Nat.beq 0 i833)
          (un_b r834 fun x835 r836 =>
           un_i r836 fun x837 r838 =>
           un_i r838 fun x839 r840 =>
           un_i r840 fun x841 r842 =>
           un_i r842 fun x843 r844 =>
           un_nil r844 <|
           L16
             (fun i845 r846 =>
              br (Nat.beq 2 i845)
                (un_b r846 fun x847 r848 =>
                 un_i r848 fun x849 r850 =>
                 un_i r850 fun x851 r852 =>
                 un_i r852 fun x853 r854 =>
                 un_i r854 fun x855 r856 =>
                 un_nil r856 <|
                 out (rtt_Rto x847 x849 x851 x853) fun r857 =>
                 un_i r857 fun x858 r859 =>
                 un_nil r859 <|
                 one (addI .i64 x855 1000) fun x860 =>
                 one (minI x860 64000000) fun x861 =>
                 one (maxI 200000 x861) fun x862 =>
                 br (x858 == x862)
                   (some [.b (true)])
                   (out (rtt_Rto x847 x849 x851 x853) fun r863 =>
                    un_i r863 fun x864 r865 =>
                    un_nil r865 <|
                    one (addI .i64 x855 32) fun x866 =>
                    some [.b (decide (x864 ≤ x866))]))
                (none))
             (fun r867 =>
              un_nil r867 <|
              none)
             top (x835) (x837) (x839) (x841) (0) (x843))
          (none))
       (fun r868 =>
        un_b r868 fun x869 r870 =>
        un_nil r870 <|
        some [.b (x869)])
       top (x825) (x827) (x829) (x831) (0) (x823) (n2))
def RttSteady (d : Int) (n2 : Int) : Option (List Leaf) := RttSteady_d @RttSteady_9_L @RttSteady_16_L d n2
end Go.Sx.T

