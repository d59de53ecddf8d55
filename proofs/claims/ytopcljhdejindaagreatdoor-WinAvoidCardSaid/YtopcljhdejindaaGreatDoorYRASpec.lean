import Derived.Test.YtopcljhdejindaaGreatDoorYRttSpec
set_option linter.all false
namespace Go.Sx.T
open Go Go.Sx
def refRtt_Sample (r_Any : Bool) (r_Smooth : Int) (r_Wide : Int) (r_Twice : Int) (d : Int) : Option (List Leaf) :=
  one (minI d 64000000) fun x641 =>
  one (maxI 0 x641) fun x642 =>
  br (!r_Any)
    (one (quoI .i64 x642 2) fun x643 =>
     some [.b (true), .i (x642), .i (x643), .i (0)])
    (one (subI .i64 r_Smooth x642) fun x644 =>
     br (decide (x644 < 0))
       (one (subI .i64 x642 r_Smooth) fun x645 =>
        one (mulI .i64 3 r_Wide) fun x646 =>
        one (addI .i64 x646 x645) fun x647 =>
        one (quoI .i64 x647 4) fun x648 =>
        one (mulI .i64 7 r_Smooth) fun x649 =>
        one (addI .i64 x649 x642) fun x650 =>
        one (quoI .i64 x650 8) fun x651 =>
        some [.b (r_Any), .i (x651), .i (x648), .i (0)])
       (one (mulI .i64 3 r_Wide) fun x652 =>
        one (addI .i64 x652 x644) fun x653 =>
        one (quoI .i64 x653 4) fun x654 =>
        one (mulI .i64 7 r_Smooth) fun x655 =>
        one (addI .i64 x655 x642) fun x656 =>
        one (quoI .i64 x656 8) fun x657 =>
        some [.b (r_Any), .i (x657), .i (x654), .i (0)]))
def refRtt_Rto_5_B  {α : Type} (kx : Nat → List Leaf → Option α) (kr : List Leaf → Option α) (again : Bool → Int → Int → Int → Int → Int → Option α) (r_Any : Bool) (r_Smooth : Int) (r_Wide : Int) (r_Twice : Int) (i : Int) (n2 : Int) : Option α :=
  br (decide (i < r_Twice))
    (br (decide (n2 < 64000000))
       (one (mulI .i64 2 n2) fun x666 =>
        one (minI x666 64000000) fun x667 =>
        one (addI .i64 i 1) fun x668 =>
        again (r_Any) (r_Smooth) (r_Wide) (r_Twice) (x668) (x667))
       (kx 0 [.b (r_Any), .i (r_Smooth), .i (r_Wide), .i (r_Twice), .i (n2)]))
    (kx 0 [.b (r_Any), .i (r_Smooth), .i (r_Wide), .i (r_Twice), .i (n2)])
def refRtt_Rto_5_L {α : Type} (kx : Nat → List Leaf → Option α) (kr : List Leaf → Option α) : Nat → Bool → Int → Int → Int → Int → Int → Option α
  | 0, _, _, _, _, _, _ => none
  | n + 1, r_Any, r_Smooth, r_Wide, r_Twice, i, n2 => refRtt_Rto_5_B  kx kr (refRtt_Rto_5_L kx kr n) r_Any r_Smooth r_Wide r_Twice i n2
def refRtt_Rto_5_F (L5 : ({β : Type} → (Nat → List Leaf → Option β) → (List Leaf → Option β) → Nat → Bool → Int → Int → Int → Int → Int → Option β)) {α : Type} (n : Nat) (ls : List Leaf) (kx : Nat → List Leaf → Option α) (kr : List Leaf → Option α) : Option α := un_b ls fun r_Any rr => un_i rr fun r_Smooth rr => un_i rr fun r_Wide rr => un_i rr fun r_Twice rr => un_i rr fun i rr => un_i rr fun n2 rr => un_nil rr (L5 kx kr n r_Any r_Smooth r_Wide r_Twice i n2)
def refRtt_Rto_d (L5 : ({β : Type} → (Nat → List Leaf → Option β) → (List Leaf → Option β) → Nat → Bool → Int → Int → Int → Int → Int → Option β)) (r_Any : Bool) (r_Smooth : Int) (r_Wide : Int) (r_Twice : Int) : Option (List Leaf) :=
  br (r_Any)
    (one (mulI .i64 4 r_Wide) fun x669 =>
     one (maxI x669 1000) fun x670 =>
     one (addI .i64 r_Smooth x670) fun x671 =>
     one (minI x671 64000000) fun x672 =>
     one (maxI 200000 x672) fun x673 =>
     L5
       (fun i674 r675 =>
        br (Nat.beq 0 i674)
          (un_b r675 fun x676 r677 =>
           un_i r677 fun x678 r679 =>
           un_i r679 fun x680 r681 =>
           un_i r681 fun x682 r683 =>
           un_i r683 fun x684 r685 =>
           un_nil r685 <|
           some [.i (x684)])
          (none))
       (fun r686 =>
        un_nil r686 <|
        none)
       top (r_Any) (r_Smooth) (r_Wide) (r_Twice) (0) (x673))
    (L5
       (fun i687 r688 =>
        br (Nat.beq 0 i687)
          (un_b r688 fun x689 r690 =>
           un_i r690 fun x691 r692 =>
           un_i r692 fun x693 r694 =>
           un_i r694 fun x695 r696 =>
           un_i r696 fun x697 r698 =>
           un_nil r698 <|
           some [.i (x697)])
          (none))
       (fun r699 =>
        un_nil r699 <|
        none)
       top (r_Any) (r_Smooth) (r_Wide) (r_Twice) (0) (3000000))
def refRtt_Rto (r_Any : Bool) (r_Smooth : Int) (r_Wide : Int) (r_Twice : Int) : Option (List Leaf) := refRtt_Rto_d @refRtt_Rto_5_L r_Any r_Smooth r_Wide r_Twice
def RttAll_6_B  {α : Type} (kx : Nat → List Leaf → Option α) (kr : List Leaf → Option α) (again : List Int → List Int → Bool → Int → Int → Int → Bool → Int → Int → Int → Int → Option α) (ops0 : List Int) (ops1 : List Int) (w_Any : Bool) (w_Smooth : Int) (w_Wide : Int) (w_Twice : Int) (r_any : Bool) (r_smooth : Int) (r_spread : Int) (r_rto : Int) (i : Int) : Option α :=
  one (Int.ofNat (List.length ops0)) fun x774 =>
  br (decide (i < x774))
    (br (decide (i < 60))
       (chk (decide (0 ≤ i ∧ i < Int.ofNat (List.length ops0))) <|
        chk (decide (0 ≤ i ∧ i < Int.ofNat (List.length ops0))) <|
        br (List.getD ops0 (Int.toNat i) 0 == 0)
          (chk (decide (0 ≤ i ∧ i < Int.ofNat (List.length ops0))) <|
           chk (decide (0 ≤ i ∧ i < Int.ofNat (List.length ops0))) <|
           out (rtt_Sample r_any r_smooth r_spread r_rto (List.getD ops1 (Int.toNat i) 0)) fun r775 =>
           un_b r775 fun x776 r777 =>
           un_i r777 fun x778 r779 =>
           un_i r779 fun x780 r781 =>
           un_i r781 fun x782 r783 =>
           un_nil r783 <|
           chk (decide (0 ≤ i ∧ i < Int.ofNat (List.length ops0))) <|
           chk (decide (0 ≤ i ∧ i < Int.ofNat (List.length ops0))) <|
           out (refRtt_Sample w_Any w_Smooth w_Wide w_Twice (List.getD ops1 (Int.toNat i) 0)) fun r784 =>
           un_b r784 fun x785 r786 =>
           un_i r786 fun x787 r788 =>
           un_i r788 fun x789 r790 =>
           un_i r790 fun x791 r792 =>
           un_nil r792 <|
           out (rtt_Smooth x776 x778 x780 x782) fun r793 =>
           un_i r793 fun x794 r795 =>
           un_b r795 fun x796 r797 =>
           un_nil r797 <|
           out (rtt_Rto x776 x778 x780 x782) fun r798 =>
           un_i r798 fun x799 r800 =>
           un_nil r800 <|
           out (refRtt_Rto x785 x787 x789 x791) fun r801 =>
           un_i r801 fun x802 r803 =>
           un_nil r803 <|
           br (x799 != x802)
             (kr [.li (ops0), .li (ops1), .b (false)])
             (out (rtt_Rto x776 x778 x780 x782) fun r804 =>
              un_i r804 fun x805 r806 =>
              un_nil r806 <|
              br (decide (x805 < 200000))
                (kr [.li (ops0), .li (ops1), .b (false)])
                (out (rtt_Rto x776 x778 x780 x782) fun r807 =>
                 un_i r807 fun x808 r809 =>
                 un_nil r809 <|
                 br (decide (x808 > 64000000))
                   (kr [.li (ops0), .li (ops1), .b (false)])
                   (br (!x796 == x785)
                      (kr [.li (ops0), .li (ops1), .b (false)])
                      (br (x794 != x787)
                         (kr [.li (ops0), .li (ops1), .b (false)])
                         (one (addI .i64 i 1) fun x810 =>
                          chk (decide (Int.ofNat (List.length ops0) = Int.ofNat (List.length ops0)) && true) <|
                          again (ops0) (ops1) (x785) (x787) (x789) (x791) (x776) (x778) (x780) (x782) (x810)))))))
          (out (rtt_Back r_any r_smooth r_spread r_rto) fun r811 =>
           un_b r811 fun x812 r813 =>
           un_i r813 fun x814 r815 =>
           un_i r815 fun x816 r817 =>
           un_i r817 fun x818 r819 =>
           un_nil r819 <|
           one (addI .i64 w_Twice 1) fun x820 =>
           out (rtt_Smooth x812 x814 x816 x818) fun r821 =>
           un_i r821 fun x822 r823 =>
           un_b r823 fun x824 r825 =>
           un_nil r825 <|
           out (rtt_Rto x812 x814 x816 x818) fun r826 =>
           un_i r826 fun x827 r828 =>
           un_nil r828 <|
           out (refRtt_Rto w_Any w_Smooth w_Wide x820) fun r829 =>
           un_i r829 fun x830 r831 =>
           un_nil r831 <|
           br (x827 != x830)
             (kr [.li (ops0), .li (ops1), .b (false)])
             (out (rtt_Rto x812 x814 x816 x818) fun r832 =>
              un_i r832 fun x833 r834 =>
              un_nil r834 <|
              br (decide (x833 < 200000))
                (kr [.li (ops0), .li (ops1), .b (false)])
                (out (rtt_Rto x812 x814 x816 x818) fun r835 =>
                 un_i r835 fun x836 r837 =>
                 un_nil r837 <|
                 br (decide (x836 > 64000000))
                   (kr [.li (ops0), .li (ops1), .b (false)])
                   (br (!x824 == w_Any)
                      (kr [.li (ops0), .li (ops1), .b (false)])
                      (br (x822 != w_Smooth)
                         (kr [.li (ops0), .li (ops1), .b (false)])
                         (one (addI .i64 i 1) fun x838 =>
                          chk (decide (Int.ofNat (List.length ops0) = Int.ofNat (List.length ops0)) && true) <|
                          again (ops0) (ops1) (w_Any) (w_Smooth) (w_Wide) (x820) (x812) (x814) (x816) (x818) (x838))))))))
       (chk (decide (Int.ofNat (List.length ops0) = Int.ofNat (List.length ops0)) && true) <|
        kx 0 [.li (ops0), .li (ops1), .b (r_any), .i (r_smooth), .i (r_spread), .i (r_rto)]))
    (chk (decide (Int.ofNat (List.length ops0) = Int.ofNat (List.length ops0)) && true) <|
     kx 0 [.li (ops0), .li (ops1), .b (r_any), .i (r_smooth), .i (r_spread), .i (r_rto)])
def RttAll_6_L {α : Type} (kx : Nat → List Leaf → Option α) (kr : List Leaf → Option α) : Nat → List Int → List Int → Bool → Int → Int → Int → Bool → Int → Int → Int → Int → Option α
  | 0, _, _, _, _, _, _, _, _, _, _, _ => none
  | n + 1, ops0, ops1, w_Any, w_Smooth, w_Wide, w_Twice, r_any, r_smooth, r_spread, r_rto, i => RttAll_6_B  kx kr (RttAll_6_L kx kr n) ops0 ops1 w_Any w_Smooth w_Wide w_Twice r_any r_smooth r_spread r_rto i
def RttAll_6_F (L6 : ({β : Type} → (Nat → List Leaf → Option β) → (List Leaf → Option β) → Nat → List Int → List Int → Bool → Int → Int → Int → Bool → Int → Int → Int → Int → Option β)) {α : Type} (n : Nat) (ls : List Leaf) (kx : Nat → List Leaf → Option α) (kr : List Leaf → Option α) : Option α := un_li ls fun ops0 rr => un_li rr fun ops1 rr => un_b rr fun w_Any rr => un_i rr fun w_Smooth rr => un_i rr fun w_Wide rr => un_i rr fun w_Twice rr => un_b rr fun r_any rr => un_i rr fun r_smooth rr => un_i rr fun r_spread rr => un_i rr fun r_rto rr => un_i rr fun i rr => un_nil rr (L6 kx kr n ops0 ops1 w_Any w_Smooth w_Wide w_Twice r_any r_smooth r_spread r_rto i)
def RttAll_d (L6 : ({β : Type} → (Nat → List Leaf → Option β) → (List Leaf → Option β) → Nat → List Int → List Int → Bool → Int → Int → Int → Bool → Int → Int → Int → Int → Option β)) (ops0 : List Int) (ops1 : List Int) : Option (List Leaf) :=
  out (rtt_New) fun r839 =>
  un_b r839 fun x840 r841 =>
  un_i r841 fun x842 r843 =>
  un_i r843 fun x844 r845 =>
  un_i r845 fun x846 r847 =>
  un_nil r847 <|
  chk (decide (Int.ofNat (List.length ops0) = Int.ofNat (List.length ops0)) && true) <|
  L6
    (fun i848 r849 =>
     br (Nat.beq 0 i848)
       (un_li r849 fun x850 r851 =>
        un_li r851 fun x852 r853 =>
        un_b r853 fun x854 r855 =>
        un_i r855 fun x856 r857 =>
        un_i r857 fun x858 r859 =>
        un_i r859 fun x860 r861 =>
        un_nil r861 <|
        one (Int.ofNat (List.length x850)) fun x862 =>
        br (decide (x862 > 0))
          (some [.b (true)])
          (out (rtt_Rto x854 x856 x858 x860) fun r863 =>
           un_i r863 fun x864 r865 =>
           un_nil r865 <|
           some [.b (x864 == 3000000)]))
       (none))
    (fun r866 =>
     un_li r866 fun x867 r868 =>
     un_li r868 fun x869 r870 =>
     un_b r870 fun x871 r872 =>
     un_nil r872 <|
     some [.b (x871)])
    top (ops0) (ops1) (false) (0) (0) (0) (x840) (x842) (x844) (x846) (0)
def RttAll (ops0 : List Int) (ops1 : List Int) : Option (List Leaf) := RttAll_d @RttAll_6_L ops0 ops1
end Go.Sx.T

