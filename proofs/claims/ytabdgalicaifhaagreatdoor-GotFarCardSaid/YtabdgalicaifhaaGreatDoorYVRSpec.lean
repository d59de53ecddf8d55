import Derived.Test.YtabdgalicaifhaaGreatDoorYVecSpec
import Derived.Test.YtabdgalicaifhaaGreatDoorYFixSpec
set_option linter.all false
namespace Go.Sx.T
open Go Go.Sx
def VecRuns_8_B  {α : Type} (kx : Nat → List Leaf → Option α) (kr : List Leaf → Option α) (again : List Int → List Int → Int → Int → Int → Option α) (more : List Int) (l : List Int) (i : Int) (state : Int) (n2 : Int) : Option α :=
  br (decide (i < n2))
    (chk (decide (Int.ofNat (List.length l) = Int.ofNat (List.length l)) && true && decide ((Int.ofNat (List.length l) + (↑(1 : Nat) : Int)) * (↑(nat_lit 8) : Int) ≤ (140737488355328 : Int) ∧ Int.ofNat (List.length l) + (↑(1 : Nat) : Int) ≤ (4611686018427387904 : Int))) <|
     one (addI .i64 i 1) fun x1538 =>
     chk (decide (Int.ofNat (List.length l) + (↑(1 : Nat) : Int) = Int.ofNat (List.length (l ++ [state]))) && (decide (Int.ofNat (List.length more) = Int.ofNat (List.length more)) && true)) <|
     again (more) (l ++ [state]) (x1538) (state) (n2))
    (chk (decide (Int.ofNat (List.length more) = Int.ofNat (List.length more)) && (decide (Int.ofNat (List.length l) = Int.ofNat (List.length l)) && true)) <|
     kx 0 [.li (more), .li (l)])
def VecRuns_8_L {α : Type} (kx : Nat → List Leaf → Option α) (kr : List Leaf → Option α) : Nat → List Int → List Int → Int → Int → Int → Option α
  | 0, _, _, _, _, _ => none
  | n + 1, more, l, i, state, n2 => VecRuns_8_B  kx kr (VecRuns_8_L kx kr n) more l i state n2
def VecRuns_8_F (L8 : ({β : Type} → (Nat → List Leaf → Option β) → (List Leaf → Option β) → Nat → List Int → List Int → Int → Int → Int → Option β)) {α : Type} (n : Nat) (ls : List Leaf) (kx : Nat → List Leaf → Option α) (kr : List Leaf → Option α) : Option α := un_li ls fun more rr => un_li rr fun l rr => un_i rr fun i rr => un_i rr fun state rr => un_i rr fun n2 rr => un_nil rr (L8 kx kr n more l i state n2)
def VecRuns_12_B  {α : Type} (kx : Nat → List Leaf → Option α) (kr : List Leaf → Option α) (again : List Int → List Int → Int → Option α) (more : List Int) (l : List Int) (i : Int) : Option α :=
  one (Int.ofNat (List.length more)) fun x1557 =>
  br (decide (i < x1557))
    (br (decide (i < 60))
       (chk (decide ((0 : Int) ≤ i ∧ i < Int.ofNat (List.length more))) <|
        chk (decide ((0 : Int) ≤ i ∧ i < Int.ofNat (List.length more))) <|
        one (remI .i64 (List.getD more (Int.toNat i) 0) 3) fun x1558 =>
        one (addI .i64 x1558 3) fun x1559 =>
        one (remI .i64 x1559 3) fun x1560 =>
        chk (decide (0 ≤ x1560 ∧ x1560 < (↑3 : Int))) <|
        chk (decide (0 ≤ x1560 ∧ x1560 < (↑3 : Int))) <|
        chk (decide (Int.ofNat (List.length l) = Int.ofNat (List.length l)) && true && decide ((Int.ofNat (List.length l) + (↑(1 : Nat) : Int)) * (↑(nat_lit 8) : Int) ≤ (140737488355328 : Int) ∧ Int.ofNat (List.length l) + (↑(1 : Nat) : Int) ≤ (4611686018427387904 : Int))) <|
        one (addI .i64 i 1) fun x1561 =>
        chk (decide (Int.ofNat (List.length more) = Int.ofNat (List.length more)) && (decide (Int.ofNat (List.length l) + (↑(1 : Nat) : Int) = Int.ofNat (List.length (l ++ [List.getD [(0 : Int), (1 : Int), (3 : Int)] (Int.toNat x1560) (0 : Int)]))) && true)) <|
        again (more) (l ++ [List.getD [(0 : Int), (1 : Int), (3 : Int)] (Int.toNat x1560) (0 : Int)]) (x1561))
       (chk (decide (Int.ofNat (List.length l) = Int.ofNat (List.length l)) && true) <|
        kx 2 [.li (more), .li (l)]))
    (chk (decide (Int.ofNat (List.length l) = Int.ofNat (List.length l)) && true) <|
     kx 2 [.li (more), .li (l)])
def VecRuns_12_L {α : Type} (kx : Nat → List Leaf → Option α) (kr : List Leaf → Option α) : Nat → List Int → List Int → Int → Option α
  | 0, _, _, _ => none
  | n + 1, more, l, i => VecRuns_12_B  kx kr (VecRuns_12_L kx kr n) more l i
def VecRuns_12_F (L12 : ({β : Type} → (Nat → List Leaf → Option β) → (List Leaf → Option β) → Nat → List Int → List Int → Int → Option β)) {α : Type} (n : Nat) (ls : List Leaf) (kx : Nat → List Leaf → Option α) (kr : List Leaf → Option α) : Option α := un_li ls fun more rr => un_li rr fun l rr => un_i rr fun i rr => un_nil rr (L12 kx kr n more l i)
def VecRuns_20_B  {α : Type} (kx : Nat → List Leaf → Option α) (kr : List Leaf → Option α) (again : List Int → List Int → List Int → List Int → List Int → Int → Int → Option α) (more : List Int) (l : List Int) (back : List Int) (cs0 : List Int) (cs1 : List Int) (t72 : Int) (t71 : Int) : Option α :=
  br (decide (t72 < t71))
    (chk (decide ((0 : Int) ≤ t72 ∧ t72 < Int.ofNat (List.length back))) <|
     chk (decide ((0 : Int) ≤ t72 ∧ t72 < Int.ofNat (List.length back))) <|
     chk (decide ((0 : Int) ≤ t72 ∧ t72 < Int.ofNat (List.length l))) <|
     chk (decide ((0 : Int) ≤ t72 ∧ t72 < Int.ofNat (List.length l))) <|
     br (List.getD back (Int.toNat t72) 0 != List.getD l (Int.toNat t72) 0)
       (kr [.li (more), .b (false)])
       (one (addI .i64 t72 1) fun x1594 =>
        chk (decide (Int.ofNat (List.length l) = Int.ofNat (List.length l)) && (decide (Int.ofNat (List.length back) = Int.ofNat (List.length back)) && (decide (Int.ofNat (List.length cs0) = Int.ofNat (List.length cs0)) && true))) <|
        again (more) (l) (back) (cs0) (cs1) (x1594) (t71)))
    (chk (decide (Int.ofNat (List.length cs0) = Int.ofNat (List.length cs0)) && true) <|
     kx 4 [.li (more), .li (cs0), .li (cs1)])
def VecRuns_20_L {α : Type} (kx : Nat → List Leaf → Option α) (kr : List Leaf → Option α) : Nat → List Int → List Int → List Int → List Int → List Int → Int → Int → Option α
  | 0, _, _, _, _, _, _, _ => none
  | n + 1, more, l, back, cs0, cs1, t72, t71 => VecRuns_20_B  kx kr (VecRuns_20_L kx kr n) more l back cs0 cs1 t72 t71
def VecRuns_20_F (L20 : ({β : Type} → (Nat → List Leaf → Option β) → (List Leaf → Option β) → Nat → List Int → List Int → List Int → List Int → List Int → Int → Int → Option β)) {α : Type} (n : Nat) (ls : List Leaf) (kx : Nat → List Leaf → Option α) (kr : List Leaf → Option α) : Option α := un_li ls fun more rr => un_li rr fun l rr => un_li rr fun back rr => un_li rr fun cs0 rr => un_li rr fun cs1 rr => un_i rr fun t72 rr => un_i rr fun t71 rr => un_nil rr (L20 kx kr n more l back cs0 cs1 t72 t71)
def VecRuns_26_B  {α : Type} (kx : Nat → List Leaf → Option α) (kr : List Leaf → Option α) (again : List Int → List Int → List Int → Int → Option α) (more : List Int) (cs0 : List Int) (cs1 : List Int) (i : Int) : Option α :=
  one (Int.ofNat (List.length cs0)) fun x1644 =>
  br (decide (i < x1644))
    (one (subI .i64 i 1) fun x1645 =>
     chk (decide ((0 : Int) ≤ x1645 ∧ x1645 < Int.ofNat (List.length cs0))) <|
     chk (decide ((0 : Int) ≤ x1645 ∧ x1645 < Int.ofNat (List.length cs0))) <|
     chk (decide ((0 : Int) ≤ i ∧ i < Int.ofNat (List.length cs0))) <|
     chk (decide ((0 : Int) ≤ i ∧ i < Int.ofNat (List.length cs0))) <|
     br (List.getD cs0 (Int.toNat x1645) 0 == List.getD cs0 (Int.toNat i) 0)
       (one (subI .i64 i 1) fun x1646 =>
        chk (decide ((0 : Int) ≤ x1646 ∧ x1646 < Int.ofNat (List.length cs0))) <|
        chk (decide ((0 : Int) ≤ x1646 ∧ x1646 < Int.ofNat (List.length cs0))) <|
        br (decide (List.getD cs1 (Int.toNat x1646) 0 < 64))
          (kr [.li (more), .b (false)])
          (one (addI .i64 i 1) fun x1647 =>
           chk (decide (Int.ofNat (List.length cs0) = Int.ofNat (List.length cs0)) && true) <|
           again (more) (cs0) (cs1) (x1647)))
       (one (addI .i64 i 1) fun x1648 =>
        chk (decide (Int.ofNat (List.length cs0) = Int.ofNat (List.length cs0)) && true) <|
        again (more) (cs0) (cs1) (x1648)))
    (chk (decide (Int.ofNat (List.length cs0) = Int.ofNat (List.length cs0)) && true) <|
     kx 6 [.li (more), .li (cs0), .li (cs1)])
def VecRuns_26_L {α : Type} (kx : Nat → List Leaf → Option α) (kr : List Leaf → Option α) : Nat → List Int → List Int → List Int → Int → Option α
  | 0, _, _, _, _ => none
  | n + 1, more, cs0, cs1, i => VecRuns_26_B  kx kr (VecRuns_26_L kx kr n) more cs0 cs1 i
def VecRuns_26_F (L26 : ({β : Type} → (Nat → List Leaf → Option β) → (List Leaf → Option β) → Nat → List Int → List Int → List Int → Int → Option β)) {α : Type} (n : Nat) (ls : List Leaf) (kx : Nat → List Leaf → Option α) (kr : List Leaf → Option α) : Option α := un_li ls fun more rr => un_li rr fun cs0 rr => un_li rr fun cs1 rr => un_i rr fun i rr => un_nil rr (L26 kx kr n more cs0 cs1 i)
def VecRuns_d (L8 : ({β : Type} → (Nat → List Leaf → Option β) → (List Leaf → Option β) → Nat → List Int → List Int → Int → Int → Int → Option β)) (L12 : ({β : Type} → (Nat → List Leaf → Option β) → (List Leaf → Option β) → Nat → List Int → List Int → Int → Option β)) (L20 : ({β : Type} → (Nat → List Leaf → Option β) → (List Leaf → Option β) → Nat → List Int → List Int → List Int → List Int → List Int → Int → Int → Option β)) (L26 : ({β : Type} → (Nat → List Leaf → Option β) → (List Leaf → Option β) → Nat → List Int → List Int → List Int → Int → Option β)) (more : List Int) (n2 : Int) (state : Int) : Option (List Leaf) :=
  one (remI .i64 n2 300) fun x1649 =>
  one (addI .i64 x1649 300) fun x1650 =>
  one (remI .i64 x1650 300) fun x1651 =>
  one (remI .i64 state 3) fun x1652 =>
  one (addI .i64 x1652 3) fun x1653 =>
  one (remI .i64 x1653 3) fun x1654 =>
  chk (decide (0 ≤ x1654 ∧ x1654 < (↑3 : Int))) <|
  chk (decide (0 ≤ x1654 ∧ x1654 < (↑3 : Int))) <|
  chk (decide ((0 : Int) = Int.ofNat (0 : Nat)) && (decide (Int.ofNat (List.length more) = Int.ofNat (List.length more)) && true)) <|
  L8
    (fun i1655 r1656 =>
     br (Nat.beq 0 i1655)
       (un_li r1656 fun x1657 r1658 =>
        un_li r1658 fun x1659 r1660 =>
        un_nil r1660 <|
        chk (decide (Int.ofNat (List.length x1657) = Int.ofNat (List.length x1657)) && (decide (Int.ofNat (List.length x1659) = Int.ofNat (List.length x1659)) && true)) <|
        L12
          (fun i1661 r1662 =>
           br (Nat.beq 2 i1661)
             (un_li r1662 fun x1663 r1664 =>
              un_li r1664 fun x1665 r1666 =>
              un_nil r1666 <|
              chk (decide (Int.ofNat (List.length x1665) = Int.ofNat (List.length x1665)) && true) <|
              out (vec_Of x1665) fun r1667 =>
              un_li r1667 fun x1668 r1669 =>
              un_li r1669 fun x1670 r1671 =>
              un_nil r1671 <|
              chk (decide (Int.ofNat (List.length x1668) = Int.ofNat (List.length x1668)) && true) <|
              out (vec_Spread x1668 x1670) fun r1672 =>
              un_li r1672 fun x1673 r1674 =>
              un_nil r1674 <|
              one (Int.ofNat (List.length x1673)) fun x1675 =>
              one (Int.ofNat (List.length x1665)) fun x1676 =>
              br (x1675 != x1676)
                (some [.b (false)])
                (one (Int.ofNat (List.length x1665)) fun x1677 =>
                 chk (decide (Int.ofNat (List.length x1665) = Int.ofNat (List.length x1665)) && (decide (Int.ofNat (List.length x1673) = Int.ofNat (List.length x1673)) && (decide (Int.ofNat (List.length x1668) = Int.ofNat (List.length x1668)) && true))) <|
                 L20
                   (fun i1678 r1679 =>
                    br (Nat.beq 4 i1678)
                      (un_li r1679 fun x1680 r1681 =>
                       un_li r1681 fun x1682 r1683 =>
                       un_li r1683 fun x1684 r1685 =>
                       un_nil r1685 <|
                       chk (decide (Int.ofNat (List.length x1682) = Int.ofNat (List.length x1682)) && true) <|
                       L26
                         (fun i1686 r1687 =>
                          br (Nat.beq 6 i1686)
                            (un_li r1687 fun x1688 r1689 =>
                             un_li r1689 fun x1690 r1691 =>
                             un_li r1691 fun x1692 r1693 =>
                             un_nil r1693 <|
                             chk (decide (Int.ofNat (List.length x1690) = Int.ofNat (List.length x1690)) && true) <|
                             out (vec_May x1690 x1692) fun r1694 =>
                             un_b r1694 fun x1695 r1696 =>
                             un_nil r1696 <|
                             some [.b (x1695)])
                            (none))
                         (fun r1697 =>
                          un_li r1697 fun x1698 r1699 =>
                          un_b r1699 fun x1700 r1701 =>
                          un_nil r1701 <|
                          some [.b (x1700)])
                         top (x1680) (x1682) (x1684) (1))
                      (none))
                   (fun r1702 =>
                    un_li r1702 fun x1703 r1704 =>
                    un_b r1704 fun x1705 r1706 =>
                    un_nil r1706 <|
                    some [.b (x1705)])
                   top (x1663) (x1665) (x1673) (x1668) (x1670) (0) (x1677)))
             (none))
          (fun r1707 =>
           un_nil r1707 <|
           none)
          top (x1657) (x1659) (0))
       (none))
    (fun r1708 =>
     un_nil r1708 <|
     none)
    top (more) ([]) (0) (List.getD [(0 : Int), (1 : Int), (3 : Int)] (Int.toNat x1654) (0 : Int)) (x1651)
def VecRuns (more : List Int) (n2 : Int) (state : Int) : Option (List Leaf) := VecRuns_d @VecRuns_8_L @VecRuns_12_L @VecRuns_20_L @VecRuns_26_L more n2 state
end Go.Sx.T

