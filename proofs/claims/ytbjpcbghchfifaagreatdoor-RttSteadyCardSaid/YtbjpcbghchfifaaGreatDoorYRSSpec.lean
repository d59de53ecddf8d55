/- What the functions compute, by program. -/
import Derived.Test.YtbjpcbghchfifaaGreatDoorYRttSpec
set_option linter.all false
namespace Go.Sx.T
open Go Go.Sx
def RttSteady_9_B  {α : Type} (kx : Nat → List Leaf → Option α) (kr : List Leaf → Option α) (again : Bool → Int → Int → Int → Int → Int → Int → Option α) (r_any : Bool) (r_smooth : Int) (r_spread : Int) (r_rto : Int) (i : Int) (d : Int) (n2 : Int) : Option α :=
  one (remI .i64 n2 60) fun x679 =>
  one (addI .i64 x679 60) fun x680 =>
  one (remI .i64 x680 60) fun x681 =>
  one (addI .i64 1 x681) fun x682 =>
  br (decide (i < x682))
    (out (rtt_Sample r_any r_smooth r_spread r_rto d) fun r683 =>
     un_b r683 fun x684 r685 =>
     un_i r685 fun x686 r687 =>
     un_i r687 fun x688 r689 =>
     un_i r689 fun x690 r691 =>
     un_nil r691 <|
     out (rtt_Smooth x684 x686 x688 x690) fun r692 =>
     un_i r692 fun x693 r694 =>
     un_b r694 fun x695 r696 =>
     un_nil r696 <|
     br (!x695)
       (kr [.b (false)])
       (br (x693 != d)
          (kr [.b (false)])
          (out (rtt_Rto x684 x686 x688 x690) fun r697 =>
           un_i r697 fun x698 r699 =>
           un_nil r699 <|
           one (maxI d 200000) fun x700 =>
           one (minI x700 64000000) fun x701 =>
           br (decide (x698 < x701))
             (kr [.b (false)])
             (one (addI .i64 i 1) fun x702 =>
              again (x684) (x686) (x688) (x690) (x702) (d) (n2)))))
    (kx 0 [.b (r_any), .i (r_smooth), .i (r_spread), .i (r_rto), .i (d)])
def RttSteady_9_L {α : Type} (kx : Nat → List Leaf → Option α) (kr : List Leaf → Option α) : Nat → Bool → Int → Int → Int → Int → Int → Int → Option α
  | 0, _, _, _, _, _, _, _ => none
  | n + 1, r_any, r_smooth, r_spread, r_rto, i, d, n2 => RttSteady_9_B  kx kr (RttSteady_9_L kx kr n) r_any r_smooth r_spread r_rto i d n2
def RttSteady_9_F (L9 : ({β : Type} → (Nat → List Leaf → Option β) → (List Leaf → Option β) → Nat → Bool → Int → Int → Int → Int → Int → Int → Option β)) {α : Type} (n : Nat) (ls : List Leaf) (kx : Nat → List Leaf → Option α) (kr : List Leaf → Option α) : Option α := un_b ls fun r_any rr => un_i rr fun r_smooth rr => un_i rr fun r_spread rr => un_i rr fun r_rto rr => un_i rr fun i rr => un_i rr fun d rr => un_i rr fun n2 rr => un_nil rr (L9 kx kr n r_any r_smooth r_spread r_rto i d n2)
def RttSteady_16_B  {α : Type} (kx : Nat → List Leaf → Option α) (kr : List Leaf → Option α) (again : Bool → Int → Int → Int → Int → Int → Option α) (r_any : Bool) (r_smooth : Int) (r_spread : Int) (r_rto : Int) (i : Int) (d : Int) : Option α :=
  br (decide (i < 60))
    (out (rtt_Sample r_any r_smooth r_spread r_rto d) fun r765 =>
     un_b r765 fun x766 r767 =>
     un_i r767 fun x768 r769 =>
     un_i r769 fun x770 r771 =>
     un_i r771 fun x772 r773 =>
     un_nil r773 <|
     one (addI .i64 i 1) fun x774 =>
     again (x766) (x768) (x770) (x772) (x774) (d))
    (kx 2 [.b (r_any), .i (r_smooth), .i (r_spread), .i (r_rto), .i (d)])
def RttSteady_16_L {α : Type} (kx : Nat → List Leaf → Option α) (kr : List Leaf → Option α) : Nat → Bool → Int → Int → Int → Int → Int → Option α
  | 0, _, _, _, _, _, _ => none
  | n + 1, r_any, r_smooth, r_spread, r_rto, i, d => RttSteady_16_B  kx kr (RttSteady_16_L kx kr n) r_any r_smooth r_spread r_rto i d
def RttSteady_16_F (L16 : ({β : Type} → (Nat → List Leaf → Option β) → (List Leaf → Option β) → Nat → Bool → Int → Int → Int → Int → Int → Option β)) {α : Type} (n : Nat) (ls : List Leaf) (kx : Nat → List Leaf → Option α) (kr : List Leaf → Option α) : Option α := un_b ls fun r_any rr => un_i rr fun r_smooth rr => un_i rr fun r_spread rr => un_i rr fun r_rto rr => un_i rr fun i rr => un_i rr fun d rr => un_nil rr (L16 kx kr n r_any r_smooth r_spread r_rto i d)
def RttSteady_d (L9 : ({β : Type} → (Nat → List Leaf → Option β) → (List Leaf → Option β) → Nat → Bool → Int → Int → Int → Int → Int → Int → Option β)) (L16 : ({β : Type} → (Nat → List Leaf → Option β) → (List Leaf → Option β) → Nat → Bool → Int → Int → Int → Int → Int → Option β)) (d : Int) (n2 : Int) : Option (List Leaf) :=
  br (decide (d < 0))
    (one (addI .i64 d 1) fun x775 =>
     one (subI .i64 0 x775) fun x776 =>
     one (remI .i64 x776 64000001) fun x777 =>
     out (rtt_New) fun r778 =>
     un_b r778 fun x779 r780 =>
     un_i r780 fun x781 r782 =>
     un_i r782 fun x783 r784 =>
     un_i r784 fun x785 r786 =>
     un_nil r786 <|
     L9
       (fun i787 r788 =>
        br (Nat.beq 0 i787)
          (un_b r788 fun x789 r790 =>
           un_i r790 fun x791 r792 =>
           un_i r792 fun x793 r794 =>
           un_i r794 fun x795 r796 =>
           un_i r796 fun x797 r798 =>
           un_nil r798 <|
           L16
             (fun i799 r800 =>
              br (Nat.beq 2 i799)
                (un_b r800 fun x801 r802 =>
                 un_i r802 fun x803 r804 =>
                 un_i r804 fun x805 r806 =>
                 un_i r806 fun x807 r808 =>
                 un_i r808 fun x809 r810 =>
                 un_nil r810 <|
                 out (rtt_Rto x801 x803 x805 x807) fun r811 =>
                 un_i r811 fun x812 r813 =>
                 un_nil r813 <|
                 one (addI .i64 x809 1000) fun x814 =>
                 one (minI x814 64000000) fun x815 =>
                 one (maxI 200000 x815) fun x816 =>
                 br (x812 == x816)
                   (some [.b (true)])
                   (out (rtt_Rto x801 x803 x805 x807) fun r817 =>
                    un_i r817 fun x818 r819 =>
                    un_nil r819 <|
                    one (addI .i64 x809 32) fun x820 =>
                    some [.b (decide (x818 ≤ x820))]))
                (none))
             (fun r821 =>
              un_nil r821 <|
              none)
             top (x789) (x791) (x793) (x795) (0) (x797))
          (none))
       (fun r822 =>
        un_b r822 fun x823 r824 =>
        un_nil r824 <|
        some [.b (x823)])
       top (x779) (x781) (x783) (x785) (0) (x777) (n2))
    (one (remI .i64 d 64000001) fun x825 =>
     out (rtt_New) fun r826 =>
     un_b r826 fun x827 r828 =>
     un_i r828 fun x829 r830 =>
     un_i r830 fun x831 r832 =>
     un_i r832 fun x833 r834 =>
     un_nil r834 <|
     L9
       (fun i835 r836 =>
        br (Nat.beq 0 i835)
          (un_b r836 fun x837 r838 =>
           un_i r838 fun x839 r840 =>
           un_i r840 fun x841 r842 =>
           un_i r842 fun x843 r844 =>
           un_i r844 fun x845 r846 =>
           un_nil r846 <|
           L16
             (fun i847 r848 =>
              br (Nat.beq 2 i847)
                (un_b r848 fun x849 r850 =>
                 un_i r850 fun x851 r852 =>
                 un_i r852 fun x853 r854 =>
                 un_i r854 fun x855 r856 =>
                 un_i r856 fun x857 r858 =>
                 un_nil r858 <|
                 out (rtt_Rto x849 x851 x853 x855) fun r859 =>
                 un_i r859 fun x860 r861 =>
                 un_nil r861 <|
                 one (addI .i64 x857 1000) fun x862 =>
                 one (minI x862 64000000) fun x863 =>
                 one (maxI 200000 x863) fun x864 =>
                 br (x860 == x864)
                   (some [.b (true)])
                   (out (rtt_Rto x849 x851 x853 x855) fun r865 =>
                    un_i r865 fun x866 r867 =>
                    un_nil r867 <|
                    one (addI .i64 x857 32) fun x868 =>
                    some [.b (decide (x866 ≤ x868))]))
                (none))
             (fun r869 =>
              un_nil r869 <|
              none)
             top (x837) (x839) (x841) (x843) (0) (x845))
          (none))
       (fun r870 =>
        un_b r870 fun x871 r872 =>
        un_nil r872 <|
        some [.b (x871)])
       top (x827) (x829) (x831) (x833) (0) (x825) (n2))
def RttSteady (d : Int) (n2 : Int) : Option (List Leaf) := RttSteady_d @RttSteady_9_L @RttSteady_16_L d n2
end Go.Sx.T
