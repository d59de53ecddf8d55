import Derived.Test.YtabdgalicaifhaaGreatDoorYSentSpec
set_option linter.all false
namespace Go.Sx.T
open Go Go.Sx
def SentRtt_8_B  {α : Type} (kx : Nat → List Leaf → Option α) (kr : List Leaf → Option α) (again : List Int → List Int → List Int → List Int → List Int → Int → Bool → Int → Int → Int → Int → Option α) (gaps : List Int) (at2 : List Int) (s_l0 : List Int) (s_l1 : List Int) (s_l2 : List Int) (s_last : Int) (s_any : Bool) (i : Int) (now : Int) (late : Int) (which : Int) : Option α :=
  one (Int.ofNat (List.length gaps)) fun x764 =>
  br (decide (i < x764))
    (br (decide (i < 30))
       (chk (decide ((0 : Int) ≤ i ∧ i < Int.ofNat (List.length gaps))) <|
        chk (decide ((0 : Int) ≤ i ∧ i < Int.ofNat (List.length gaps))) <|
        one (remI .i64 (List.getD gaps (Int.toNat i) 0) 1000) fun x765 =>
        one (addI .i64 x765 1000) fun x766 =>
        one (remI .i64 x766 1000) fun x767 =>
        one (addI .i64 now x767) fun x768 =>
        one (addI .i64 10 i) fun x769 =>
        one (wrapI .u64 x769) fun x770 =>
        chk (decide (Int.ofNat (List.length s_l0) = Int.ofNat (List.length s_l0)) && true && true) <|
        out (sent_Put s_l0 s_l1 s_l2 s_last s_any x770 x768) fun r771 =>
        un_li r771 fun x772 r773 =>
        un_li r773 fun x774 r775 =>
        un_li r775 fun x776 r777 =>
        un_i r777 fun x778 r779 =>
        un_b r779 fun x780 r781 =>
        un_b r781 fun x782 r783 =>
        un_nil r783 <|
        chk (decide (Int.ofNat (List.length at2) = Int.ofNat (List.length at2)) && true && decide ((Int.ofNat (List.length at2) + (↑(1 : Nat) : Int)) * (↑(nat_lit 8) : Int) ≤ (140737488355328 : Int) ∧ Int.ofNat (List.length at2) + (↑(1 : Nat) : Int) ≤ (4611686018427387904 : Int))) <|
        one (addI .i64 i 1) fun x784 =>
        chk (decide (Int.ofNat (List.length x772) = Int.ofNat (List.length x772)) && true && true) <|
        chk (decide (Int.ofNat (List.length at2) + (↑(1 : Nat) : Int) = Int.ofNat (List.length (at2 ++ [x768]))) && (decide (Int.ofNat (List.length gaps) = Int.ofNat (List.length gaps)) && true)) <|
        again (gaps) (at2 ++ [x768]) (x772) (x774) (x776) (x778) (x780) (x784) (x768) (late) (which))
       (chk (decide (Int.ofNat (List.length s_l0) = Int.ofNat (List.length s_l0)) && true && true) <|
        chk (decide (Int.ofNat (List.length at2) = Int.ofNat (List.length at2)) && true) <|
        kx 0 [.li (gaps), .li (s_l0), .li (s_l1), .li (s_l2), .li (at2), .i (s_last), .b (s_any), .i (now), .i (late), .i (which)]))
    (chk (decide (Int.ofNat (List.length s_l0) = Int.ofNat (List.length s_l0)) && true && true) <|
     chk (decide (Int.ofNat (List.length at2) = Int.ofNat (List.length at2)) && true) <|
     kx 0 [.li (gaps), .li (s_l0), .li (s_l1), .li (s_l2), .li (at2), .i (s_last), .b (s_any), .i (now), .i (late), .i (which)])
def SentRtt_8_L {α : Type} (kx : Nat → List Leaf → Option α) (kr : List Leaf → Option α) : Nat → List Int → List Int → List Int → List Int → List Int → Int → Bool → Int → Int → Int → Int → Option α
  | 0, _, _, _, _, _, _, _, _, _, _, _ => none
  | n + 1, gaps, at2, s_l0, s_l1, s_l2, s_last, s_any, i, now, late, which => SentRtt_8_B  kx kr (SentRtt_8_L kx kr n) gaps at2 s_l0 s_l1 s_l2 s_last s_any i now late which
def SentRtt_8_F (L8 : ({β : Type} → (Nat → List Leaf → Option β) → (List Leaf → Option β) → Nat → List Int → List Int → List Int → List Int → List Int → Int → Bool → Int → Int → Int → Int → Option β)) {α : Type} (n : Nat) (ls : List Leaf) (kx : Nat → List Leaf → Option α) (kr : List Leaf → Option α) : Option α := un_li ls fun gaps rr => un_li rr fun at2 rr => un_li rr fun s_l0 rr => un_li rr fun s_l1 rr => un_li rr fun s_l2 rr => un_i rr fun s_last rr => un_b rr fun s_any rr => un_i rr fun i rr => un_i rr fun now rr => un_i rr fun late rr => un_i rr fun which rr => un_nil rr (L8 kx kr n gaps at2 s_l0 s_l1 s_l2 s_last s_any i now late which)
def SentRtt_d (L8 : ({β : Type} → (Nat → List Leaf → Option β) → (List Leaf → Option β) → Nat → List Int → List Int → List Int → List Int → List Int → Int → Bool → Int → Int → Int → Int → Option β)) (gaps : List Int) (which : Int) (late : Int) : Option (List Leaf) :=
  out (sent_New) fun r785 =>
  un_li r785 fun x786 r787 =>
  un_li r787 fun x788 r789 =>
  un_li r789 fun x790 r791 =>
  un_i r791 fun x792 r793 =>
  un_b r793 fun x794 r795 =>
  un_nil r795 <|
  chk (decide (Int.ofNat (List.length x786) = Int.ofNat (List.length x786)) && true && true) <|
  chk (decide ((0 : Int) = Int.ofNat (0 : Nat)) && (decide (Int.ofNat (List.length gaps) = Int.ofNat (List.length gaps)) && true)) <|
  L8
    (fun i796 r797 =>
     br (Nat.beq 0 i796)
       (un_li r797 fun x798 r799 =>
        un_li r799 fun x800 r801 =>
        un_li r801 fun x802 r803 =>
        un_li r803 fun x804 r805 =>
        un_li r805 fun x806 r807 =>
        un_i r807 fun x808 r809 =>
        un_b r809 fun x810 r811 =>
        un_i r811 fun x812 r813 =>
        un_i r813 fun x814 r815 =>
        un_i r815 fun x816 r817 =>
        un_nil r817 <|
        one (Int.ofNat (List.length x806)) fun x818 =>
        br (x818 == 0)
          (chk (decide (Int.ofNat (List.length x800) = Int.ofNat (List.length x800)) && true && true) <|
           out (sent_Out x800 x802 x804 x808 x810) fun r819 =>
           un_i r819 fun x820 r821 =>
           un_nil r821 <|
           some [.b (x820 == 0)])
          (one (Int.ofNat (List.length x806)) fun x822 =>
           chk (decide (x822 ≠ 0)) <|
           one (remI .i64 x816 x822) fun x823 =>
           one (Int.ofNat (List.length x806)) fun x824 =>
           one (addI .i64 x823 x824) fun x825 =>
           one (Int.ofNat (List.length x806)) fun x826 =>
           chk (decide (x826 ≠ 0)) <|
           one (remI .i64 x825 x826) fun x827 =>
           one (minI x814 1099511627776) fun x828 =>
           one (maxI 0 x828) fun x829 =>
           one (addI .i64 10 x827) fun x830 =>
           one (wrapI .u64 x830) fun x831 =>
           one (addI .i64 x812 x829) fun x832 =>
           chk (decide (Int.ofNat (List.length x800) = Int.ofNat (List.length x800)) && true && true) <|
           chk (decide ((↑(1 : Nat) : Int) = Int.ofNat (List.length [(0 : Int)])) && true) <|
           out (sent_Hear x800 x802 x804 [(0 : Int)] [(64 : Int)] x808 x810 x831 x832) fun r833 =>
           un_li r833 fun x834 r835 =>
           un_li r835 fun x836 r837 =>
           un_li r837 fun x838 r839 =>
           un_li r839 fun x840 r841 =>
           un_li r841 fun x842 r843 =>
           un_li r843 fun x844 r845 =>
           un_i r845 fun x846 r847 =>
           un_b r847 fun x848 r849 =>
           un_i r849 fun x850 r851 =>
           un_i r851 fun x852 r853 =>
           un_nil r853 <|
           one (addI .i64 10 x827) fun x854 =>
           one (wrapI .u64 x854) fun x855 =>
           one (addI .i64 x812 x829) fun x856 =>
           chk (decide (Int.ofNat (List.length x834) = Int.ofNat (List.length x834)) && true && true) <|
           chk (decide ((↑(1 : Nat) : Int) = Int.ofNat (List.length [(0 : Int)])) && true) <|
           out (sent_Hear x834 x836 x838 [(0 : Int)] [(64 : Int)] x846 x848 x855 x856) fun r857 =>
           un_li r857 fun x858 r859 =>
           un_li r859 fun x860 r861 =>
           un_li r861 fun x862 r863 =>
           un_li r863 fun x864 r865 =>
           un_li r865 fun x866 r867 =>
           un_li r867 fun x868 r869 =>
           un_i r869 fun x870 r871 =>
           un_b r871 fun x872 r873 =>
           un_i r873 fun x874 r875 =>
           un_i r875 fun x876 r877 =>
           un_nil r877 <|
           one (addI .i64 x812 x829) fun x878 =>
           chk (decide ((0 : Int) ≤ x827 ∧ x827 < Int.ofNat (List.length x806))) <|
           chk (decide ((0 : Int) ≤ x827 ∧ x827 < Int.ofNat (List.length x806))) <|
           one (subI .i64 x878 (List.getD x806 (Int.toNat x827) 0)) fun x879 =>
           br (x852 == x879)
             (one (Int.ofNat (List.length x840)) fun x880 =>
              one (addI .i64 x827 1) fun x881 =>
              br (x880 == x881)
                (br (x876 == -1)
                   (one (Int.ofNat (List.length x864)) fun x882 =>
                    some [.b (x882 == 0)])
                   (some [.b (false)]))
                (some [.b (false)]))
             (some [.b (false)])))
       (none))
    (fun r883 =>
     un_nil r883 <|
     none)
    top (gaps) ([]) (x786) (x788) (x790) (x792) (x794) (0) (0) (late) (which)
def SentRtt (gaps : List Int) (which : Int) (late : Int) : Option (List Leaf) := SentRtt_d @SentRtt_8_L gaps which late
end Go.Sx.T

