import Derived.Test.YtngjglbakgdgaaaGreatDoorYLowSpec
set_option linter.all false
namespace Go.Sx.T
open Go Go.Sx
def rset_New  : Option (List Leaf) :=
  chk (decide ((↑(1 : Nat) : Int) = Int.ofNat (List.length [(0 : Int)])) && true && true) <|
  some [.li ([0]), .li ([18446744073709551615])]
def rset_Len (s_l0 : List Int) (s_l1 : List Int) : Option (List Leaf) :=
  one (Int.ofNat (List.length s_l0)) fun x521 =>
  some [.i (x521)]
def rset_Max_3_B  {α : Type} (kx : Nat → List Leaf → Option α) (kr : List Leaf → Option α) (again : List Int → List Int → Int → Int → Int → Option α) (s_l0 : List Int) (s_l1 : List Int) (t7 : Int) (most : Int) (t6 : Int) : Option α :=
  br (decide (t7 < t6))
    (chk (decide ((0 : Int) ≤ t7 ∧ t7 < Int.ofNat (List.length s_l0))) <|
     chk (decide ((0 : Int) ≤ t7 ∧ t7 < Int.ofNat (List.length s_l0))) <|
     one (maxI most (List.getD s_l1 (Int.toNat t7) 0)) fun x527 =>
     one (addI .i64 t7 1) fun x528 =>
     chk (decide (Int.ofNat (List.length s_l0) = Int.ofNat (List.length s_l0)) && true && true) <|
     again (s_l0) (s_l1) (x528) (x527) (t6))
    (chk (decide (Int.ofNat (List.length s_l0) = Int.ofNat (List.length s_l0)) && true && true) <|
     kx 0 [.li (s_l0), .li (s_l1), .i (most)])
def rset_Max_3_L {α : Type} (kx : Nat → List Leaf → Option α) (kr : List Leaf → Option α) : Nat → List Int → List Int → Int → Int → Int → Option α
  | 0, _, _, _, _, _ => none
  | n + 1, s_l0, s_l1, t7, most, t6 => rset_Max_3_B  kx kr (rset_Max_3_L kx kr n) s_l0 s_l1 t7 most t6
def rset_Max_3_F (L3 : ({β : Type} → (Nat → List Leaf → Option β) → (List Leaf → Option β) → Nat → List Int → List Int → Int → Int → Int → Option β)) {α : Type} (n : Nat) (ls : List Leaf) (kx : Nat → List Leaf → Option α) (kr : List Leaf → Option α) : Option α := un_li ls fun s_l0 rr => un_li rr fun s_l1 rr => un_i rr fun t7 rr => un_i rr fun most rr => un_i rr fun t6 rr => un_nil rr (L3 kx kr n s_l0 s_l1 t7 most t6)
def rset_Max_d (L3 : ({β : Type} → (Nat → List Leaf → Option β) → (List Leaf → Option β) → Nat → List Int → List Int → Int → Int → Int → Option β)) (s_l0 : List Int) (s_l1 : List Int) : Option (List Leaf) :=
  chk (decide (Int.ofNat (List.length s_l0) = Int.ofNat (List.length s_l0)) && true && true) <|
  out (rset_Len s_l0 s_l1) fun r529 =>
  un_i r529 fun x530 r531 =>
  un_nil r531 <|
  chk (decide (Int.ofNat (List.length s_l0) = Int.ofNat (List.length s_l0)) && true && true) <|
  L3
    (fun i532 r533 =>
     br (Nat.beq 0 i532)
       (un_li r533 fun x534 r535 =>
        un_li r535 fun x536 r537 =>
        un_i r537 fun x538 r539 =>
        un_nil r539 <|
        some [.i (x538)])
       (none))
    (fun r540 =>
     un_nil r540 <|
     none)
    top (s_l0) (s_l1) (0) (0) (x530)
def rset_Max (s_l0 : List Int) (s_l1 : List Int) : Option (List Leaf) := rset_Max_d @rset_Max_3_L s_l0 s_l1
def rset_Only (s_l0 : List Int) (s_l1 : List Int) (x : Int) (now : Int) : Option (List Leaf) :=
  one (maxI now 0) fun x541 =>
  one (minI x541 4611686018427387904) fun x542 =>
  chk (decide ((↑(1 : Nat) : Int) = Int.ofNat (List.length [x542])) && true && true) <|
  some [.li ([x542]), .li ([x])]
def rset_Maximize_1_B  {α : Type} (kx : Nat → List Leaf → Option α) (kr : List Leaf → Option α) (again : List Int → List Int → Int → Int → Int → Int → Option α) (s_l0 : List Int) (s_l1 : List Int) (t9 : Int) (x : Int) (now : Int) (t8 : Int) : Option α :=
  br (decide (t9 < t8))
    (chk (decide ((0 : Int) ≤ t9 ∧ t9 < Int.ofNat (List.length s_l0))) <|
     chk (decide ((0 : Int) ≤ t9 ∧ t9 < Int.ofNat (List.length s_l0))) <|
     br (List.getD s_l1 (Int.toNat t9) 0 != 18446744073709551615)
       (chk (decide ((0 : Int) ≤ t9 ∧ t9 < Int.ofNat (List.length s_l0))) <|
        chk (decide ((0 : Int) ≤ t9 ∧ t9 < Int.ofNat (List.length s_l0))) <|
        one (maxI x (List.getD s_l1 (Int.toNat t9) 0)) fun x549 =>
        one (addI .i64 t9 1) fun x550 =>
        chk (decide (Int.ofNat (List.length s_l0) = Int.ofNat (List.length s_l0)) && true && true) <|
        again (s_l0) (s_l1) (x550) (x549) (now) (t8))
       (one (addI .i64 t9 1) fun x551 =>
        chk (decide (Int.ofNat (List.length s_l0) = Int.ofNat (List.length s_l0)) && true && true) <|
        again (s_l0) (s_l1) (x551) (x) (now) (t8)))
    (chk (decide (Int.ofNat (List.length s_l0) = Int.ofNat (List.length s_l0)) && true && true) <|
     kx 0 [.li (s_l0), .li (s_l1), .i (now), .i (x)])
def rset_Maximize_1_L {α : Type} (kx : Nat → List Leaf → Option α) (kr : List Leaf → Option α) : Nat → List Int → List Int → Int → Int → Int → Int → Option α
  | 0, _, _, _, _, _, _ => none
  | n + 1, s_l0, s_l1, t9, x, now, t8 => rset_Maximize_1_B  kx kr (rset_Maximize_1_L kx kr n) s_l0 s_l1 t9 x now t8
def rset_Maximize_1_F (L1 : ({β : Type} → (Nat → List Leaf → Option β) → (List Leaf → Option β) → Nat → List Int → List Int → Int → Int → Int → Int → Option β)) {α : Type} (n : Nat) (ls : List Leaf) (kx : Nat → List Leaf → Option α) (kr : List Leaf → Option α) : Option α := un_li ls fun s_l0 rr => un_li rr fun s_l1 rr => un_i rr fun t9 rr => un_i rr fun x rr => un_i rr fun now rr => un_i rr fun t8 rr => un_nil rr (L1 kx kr n s_l0 s_l1 t9 x now t8)
def rset_Maximize_d (L1 : ({β : Type} → (Nat → List Leaf → Option β) → (List Leaf → Option β) → Nat → List Int → List Int → Int → Int → Int → Int → Option β)) (s_l0 : List Int) (s_l1 : List Int) (x : Int) (now : Int) : Option (List Leaf) :=
  chk (decide (Int.ofNat (List.length s_l0) = Int.ofNat (List.length s_l0)) && true && true) <|
  out (rset_Len s_l0 s_l1) fun r552 =>
  un_i r552 fun x553 r554 =>
  un_nil r554 <|
  chk (decide (Int.ofNat (List.length s_l0) = Int.ofNat (List.length s_l0)) && true && true) <|
  L1
    (fun i555 r556 =>
     br (Nat.beq 0 i555)
       (un_li r556 fun x557 r558 =>
        un_li r558 fun x559 r560 =>
        un_i r560 fun x561 r562 =>
        un_i r562 fun x563 r564 =>
        un_nil r564 <|
        chk (decide (Int.ofNat (List.length x557) = Int.ofNat (List.length x557)) && true && true) <|
        out (rset_Only x557 x559 x563 x561) fun r565 =>
        un_li r565 fun x566 r567 =>
        un_li r567 fun x568 r569 =>
        un_nil r569 <|
        chk (decide (Int.ofNat (List.length x566) = Int.ofNat (List.length x566)) && true && true) <|
        some [.li (x566), .li (x568)])
       (none))
    (fun r570 =>
     un_nil r570 <|
     none)
    top (s_l0) (s_l1) (0) (x) (now) (x553)
def rset_Maximize (s_l0 : List Int) (s_l1 : List Int) (x : Int) (now : Int) : Option (List Leaf) := rset_Maximize_d @rset_Maximize_1_L s_l0 s_l1 x now
def rset_Halve_1_B  {α : Type} (kx : Nat → List Leaf → Option α) (kr : List Leaf → Option α) (again : List Int → List Int → Int → Int → Option α) (s_l0 : List Int) (s_l1 : List Int) (t5 : Int) (t4 : Int) : Option α :=
  br (decide (t5 < t4))
    (chk (decide ((0 : Int) ≤ t5 ∧ t5 < Int.ofNat (List.length s_l0))) <|
     chk (decide ((0 : Int) ≤ t5 ∧ t5 < Int.ofNat (List.length s_l0))) <|
     br (List.getD s_l1 (Int.toNat t5) 0 != 18446744073709551615)
       (chk (decide ((0 : Int) ≤ t5 ∧ t5 < Int.ofNat (List.length s_l0))) <|
        chk (decide ((0 : Int) ≤ t5 ∧ t5 < Int.ofNat (List.length s_l0))) <|
        one (quoI .u64 (List.getD s_l1 (Int.toNat t5) 0) 2) fun x577 =>
        chk (decide ((0 : Int) ≤ t5 ∧ t5 < Int.ofNat (List.length s_l0))) <|
        chk (decide ((0 : Int) ≤ t5 ∧ t5 < Int.ofNat (List.length s_l0))) <|
        one (addI .i64 t5 1) fun x578 =>
        chk (decide (Int.ofNat (List.length s_l0) = Int.ofNat (List.length s_l0)) && true && true) <|
        again (s_l0) (List.set s_l1 (Int.toNat t5) x577) (x578) (t4))
       (one (addI .i64 t5 1) fun x579 =>
        chk (decide (Int.ofNat (List.length s_l0) = Int.ofNat (List.length s_l0)) && true && true) <|
        again (s_l0) (s_l1) (x579) (t4)))
    (chk (decide (Int.ofNat (List.length s_l0) = Int.ofNat (List.length s_l0)) && true && true) <|
     kx 0 [.li (s_l0), .li (s_l1)])
def rset_Halve_1_L {α : Type} (kx : Nat → List Leaf → Option α) (kr : List Leaf → Option α) : Nat → List Int → List Int → Int → Int → Option α
  | 0, _, _, _, _ => none
  | n + 1, s_l0, s_l1, t5, t4 => rset_Halve_1_B  kx kr (rset_Halve_1_L kx kr n) s_l0 s_l1 t5 t4
def rset_Halve_1_F (L1 : ({β : Type} → (Nat → List Leaf → Option β) → (List Leaf → Option β) → Nat → List Int → List Int → Int → Int → Option β)) {α : Type} (n : Nat) (ls : List Leaf) (kx : Nat → List Leaf → Option α) (kr : List Leaf → Option α) : Option α := un_li ls fun s_l0 rr => un_li rr fun s_l1 rr => un_i rr fun t5 rr => un_i rr fun t4 rr => un_nil rr (L1 kx kr n s_l0 s_l1 t5 t4)
def rset_Halve_d (L1 : ({β : Type} → (Nat → List Leaf → Option β) → (List Leaf → Option β) → Nat → List Int → List Int → Int → Int → Option β)) (s_l0 : List Int) (s_l1 : List Int) : Option (List Leaf) :=
  chk (decide (Int.ofNat (List.length s_l0) = Int.ofNat (List.length s_l0)) && true && true) <|
  out (rset_Len s_l0 s_l1) fun r580 =>
  un_i r580 fun x581 r582 =>
  un_nil r582 <|
  chk (decide (Int.ofNat (List.length s_l0) = Int.ofNat (List.length s_l0)) && true && true) <|
  L1
    (fun i583 r584 =>
     br (Nat.beq 0 i583)
       (un_li r584 fun x585 r586 =>
        un_li r586 fun x587 r588 =>
        un_nil r588 <|
        chk (decide (Int.ofNat (List.length x585) = Int.ofNat (List.length x585)) && true && true) <|
        some [.li (x585), .li (x587)])
       (none))
    (fun r589 =>
     un_nil r589 <|
     none)
    top (s_l0) (s_l1) (0) (x581)
def rset_Halve (s_l0 : List Int) (s_l1 : List Int) : Option (List Leaf) := rset_Halve_d @rset_Halve_1_L s_l0 s_l1
def rset_Update_1 (now : Int) (r : Int) (p_at : Int) (p_x : Int) : Option (List Leaf) :=
  one (mulI .i64 2 r) fun x590 =>
  one (subI .i64 now x590) fun x591 =>
  some [.i (now), .i (r), .b (decide (p_at < x591))]
def set_IndexFunc_2_B  {α : Type} (kx : Nat → List Leaf → Option α) (kr : List Leaf → Option α) (again : List Int → List Int → Int → Int → Int → Int → Option α) (s0 : List Int) (s1 : List Int) (now : Int) (r : Int) (t8 : Int) (t7 : Int) : Option α :=
  br (decide (t8 < t7))
    (chk (decide ((0 : Int) ≤ t8 ∧ t8 < Int.ofNat (List.length s0))) <|
     chk (decide ((0 : Int) ≤ t8 ∧ t8 < Int.ofNat (List.length s0))) <|
     out (rset_Update_1 now r (List.getD s0 (Int.toNat t8) 0) (List.getD s1 (Int.toNat t8) 0)) fun r601 =>
     un_i r601 fun x602 r603 =>
     un_i r603 fun x604 r605 =>
     un_b r605 fun x606 r607 =>
     un_nil r607 <|
     br (x606)
       (kr [.li (s0), .li (s1), .i (x602), .i (x604), .i (t8)])
       (one (addI .i64 t8 1) fun x608 =>
        chk (decide (Int.ofNat (List.length s0) = Int.ofNat (List.length s0)) && true) <|
        again (s0) (s1) (x602) (x604) (x608) (t7)))
    (kx 0 [.li (s0), .li (s1), .i (now), .i (r)])
def set_IndexFunc_2_L {α : Type} (kx : Nat → List Leaf → Option α) (kr : List Leaf → Option α) : Nat → List Int → List Int → Int → Int → Int → Int → Option α
  | 0, _, _, _, _, _, _ => none
  | n + 1, s0, s1, now, r, t8, t7 => set_IndexFunc_2_B  kx kr (set_IndexFunc_2_L kx kr n) s0 s1 now r t8 t7
def set_IndexFunc_2_F (L2 : ({β : Type} → (Nat → List Leaf → Option β) → (List Leaf → Option β) → Nat → List Int → List Int → Int → Int → Int → Int → Option β)) {α : Type} (n : Nat) (ls : List Leaf) (kx : Nat → List Leaf → Option α) (kr : List Leaf → Option α) : Option α := un_li ls fun s0 rr => un_li rr fun s1 rr => un_i rr fun now rr => un_i rr fun r rr => un_i rr fun t8 rr => un_i rr fun t7 rr => un_nil rr (L2 kx kr n s0 s1 now r t8 t7)
def set_IndexFunc_d (L2 : ({β : Type} → (Nat → List Leaf → Option β) → (List Leaf → Option β) → Nat → List Int → List Int → Int → Int → Int → Int → Option β)) (s0 : List Int) (s1 : List Int) (now : Int) (r : Int) : Option (List Leaf) :=
  one (Int.ofNat (List.length s0)) fun x609 =>
  chk (decide (Int.ofNat (List.length s0) = Int.ofNat (List.length s0)) && true) <|
  L2
    (fun i610 r611 =>
     br (Nat.beq 0 i610)
       (un_li r611 fun x612 r613 =>
        un_li r613 fun x614 r615 =>
        un_i r615 fun x616 r617 =>
        un_i r617 fun x618 r619 =>
        un_nil r619 <|
        some [.i (x616), .i (x618), .i (-1)])
       (none))
    (fun r620 =>
     un_li r620 fun x621 r622 =>
     un_li r622 fun x623 r624 =>
     un_i r624 fun x625 r626 =>
     un_i r626 fun x627 r628 =>
     un_i r628 fun x629 r630 =>
     un_nil r630 <|
     some [.i (x625), .i (x627), .i (x629)])
    top (s0) (s1) (now) (r) (0) (x609)
def set_IndexFunc (s0 : List Int) (s1 : List Int) (now : Int) (r : Int) : Option (List Leaf) := set_IndexFunc_d @set_IndexFunc_2_L s0 s1 now r
def set_DeleteFunc_5_B  {α : Type} (kx : Nat → List Leaf → Option α) (kr : List Leaf → Option α) (again : List Int → List Int → Int → Int → Int → Int → Option α) (s0 : List Int) (s1 : List Int) (now : Int) (r : Int) (j : Int) (i : Int) : Option α :=
  one (Int.ofNat (List.length s0)) fun x650 =>
  br (decide (j < x650))
    (chk (decide ((0 : Int) ≤ j ∧ j < Int.ofNat (List.length s0))) <|
     chk (decide ((0 : Int) ≤ j ∧ j < Int.ofNat (List.length s0))) <|
     out (rset_Update_1 now r (List.getD s0 (Int.toNat j) 0) (List.getD s1 (Int.toNat j) 0)) fun r651 =>
     un_i r651 fun x652 r653 =>
     un_i r653 fun x654 r655 =>
     un_b r655 fun x656 r657 =>
     un_nil r657 <|
     br (!x656)
       (chk (decide ((0 : Int) ≤ i ∧ i < Int.ofNat (List.length s0))) <|
        chk (decide ((0 : Int) ≤ i ∧ i < Int.ofNat (List.length s0))) <|
        one (addI .i64 i 1) fun x658 =>
        one (addI .i64 j 1) fun x659 =>
        chk (decide (Int.ofNat (List.length s0) = Int.ofNat (List.length (List.set s0 (Int.toNat i) (List.getD s0 (Int.toNat j) (0 : Int))))) && true) <|
        again (List.set s0 (Int.toNat i) (List.getD s0 (Int.toNat j) 0)) (List.set s1 (Int.toNat i) (List.getD s1 (Int.toNat j) 0)) (x652) (x654) (x659) (x658))
       (one (addI .i64 j 1) fun x660 =>
        chk (decide (Int.ofNat (List.length s0) = Int.ofNat (List.length s0)) && true) <|
        again (s0) (s1) (x652) (x654) (x660) (i)))
    (chk (decide (Int.ofNat (List.length s0) = Int.ofNat (List.length s0)) && true) <|
     kx 0 [.li (s0), .li (s1), .i (now), .i (r), .i (i)])
def set_DeleteFunc_5_L {α : Type} (kx : Nat → List Leaf → Option α) (kr : List Leaf → Option α) : Nat → List Int → List Int → Int → Int → Int → Int → Option α
  | 0, _, _, _, _, _, _ => none
  | n + 1, s0, s1, now, r, j, i => set_DeleteFunc_5_B  kx kr (set_DeleteFunc_5_L kx kr n) s0 s1 now r j i
def set_DeleteFunc_5_F (L5 : ({β : Type} → (Nat → List Leaf → Option β) → (List Leaf → Option β) → Nat → List Int → List Int → Int → Int → Int → Int → Option β)) {α : Type} (n : Nat) (ls : List Leaf) (kx : Nat → List Leaf → Option α) (kr : List Leaf → Option α) : Option α := un_li ls fun s0 rr => un_li rr fun s1 rr => un_i rr fun now rr => un_i rr fun r rr => un_i rr fun j rr => un_i rr fun i rr => un_nil rr (L5 kx kr n s0 s1 now r j i)
def set_DeleteFunc_d (L5 : ({β : Type} → (Nat → List Leaf → Option β) → (List Leaf → Option β) → Nat → List Int → List Int → Int → Int → Int → Int → Option β)) (s0 : List Int) (s1 : List Int) (now : Int) (r : Int) : Option (List Leaf) :=
  chk (decide (Int.ofNat (List.length s0) = Int.ofNat (List.length s0)) && true) <|
  out (set_IndexFunc s0 s1 now r) fun r661 =>
  un_i r661 fun x662 r663 =>
  un_i r663 fun x664 r665 =>
  un_i r665 fun x666 r667 =>
  un_nil r667 <|
  br (x666 == -1)
    (chk (decide (Int.ofNat (nat_lit 0) + Int.ofNat (List.length s0) ≤ Int.ofNat (List.length s0))) <|
     chk (decide (Int.ofNat (List.length s0) = Int.ofNat (List.length (List.take (Int.toNat (Int.ofNat (List.length s0))) (List.drop (Int.toNat (Int.ofNat (nat_lit 0))) s0)))) && true) <|
     some [.li (List.take (Int.toNat (Int.ofNat (List.length s0))) (List.drop (Int.toNat (Int.ofNat 0)) s0)), .li (List.take (Int.toNat (Int.ofNat (List.length s0))) (List.drop (Int.toNat (Int.ofNat 0)) s1)), .i (x662), .i (x664)])
    (one (addI .i64 x666 1) fun x668 =>
     chk (decide (Int.ofNat (List.length s0) = Int.ofNat (List.length s0)) && true) <|
     L5
       (fun i669 r670 =>
        br (Nat.beq 0 i669)
          (un_li r670 fun x671 r672 =>
           un_li r672 fun x673 r674 =>
           un_i r674 fun x675 r676 =>
           un_i r676 fun x677 r678 =>
           un_i r678 fun x679 r680 =>
           un_nil r680 <|
           chk (condSl (rlOf [[Col.int .i64 x671, Col.int .u64 x673], [], []] (0 : Nat)) (Option.some x679) Option.none) <|
           chk (rowIn (Option.some (offAdd Option.none x679)) (lenSl (rlOf [[Col.int .i64 x671, Col.int .u64 x673], [], []] (0 : Nat)) (Option.some x679) Option.none) (Int.ofNat (List.length x671))) <|
           chk (condSl (rlOf [[Col.int .i64 x671, Col.int .u64 x673], [], []] (0 : Nat)) Option.none (Option.some x679)) <|
           chk (decide (Int.ofNat (nat_lit 0) + x679 ≤ Int.ofNat (List.length x671))) <|
           chk (decide (x679 = Int.ofNat (List.length (List.take (Int.toNat x679) (List.drop (Int.toNat (Int.ofNat (nat_lit 0))) (wipeL (Int.toNat (Option.getD (cutOff (isRo [AObj.row (178 : Go.TypeId) (2 : Nat) (colsN [Col.int .i64 x671, Col.int .u64 x673]) [Col.int .i64 x671, Col.int .u64 x673], AObj.cells (2 : Go.TypeId) [A.raw (Go.Value.int .i64 x675)], AObj.cells (2 : Go.TypeId) [A.raw (Go.Value.int .i64 x677)]] (0 : Nat)) Option.none (Option.some x679) Option.none) (0 : Int))) (Int.toNat (lenSl (rlOf [[Col.int .i64 x671, Col.int .u64 x673], [], []] (0 : Nat)) (Option.some x679) Option.none)) x671 (0 : Int)))))) && true) <|
           some [.li (List.take (Int.toNat x679) (List.drop (Int.toNat (Int.ofNat 0)) (wipeL (Int.toNat (Option.getD (cutOff (isRo [AObj.row 178 2 (colsN [Col.int .i64 x671, Col.int .u64 x673]) [Col.int .i64 x671, Col.int .u64 x673], AObj.cells 2 [A.raw (Go.Value.int .i64 x675)], AObj.cells 2 [A.raw (Go.Value.int .i64 x677)]] 0) Option.none (Option.some x679) Option.none) 0)) (Int.toNat (lenSl (rlOf [[Col.int .i64 x671, Col.int .u64 x673], [], []] 0) (Option.some x679) Option.none)) x671 0))), .li (List.take (Int.toNat x679) (List.drop (Int.toNat (Int.ofNat 0)) (wipeL (Int.toNat (Option.getD (cutOff (isRo [AObj.row 178 2 (colsN [Col.int .i64 x671, Col.int .u64 x673]) [Col.int .i64 x671, Col.int .u64 x673], AObj.cells 2 [A.raw (Go.Value.int .i64 x675)], AObj.cells 2 [A.raw (Go.Value.int .i64 x677)]] 0) Option.none (Option.some x679) Option.none) 0)) (Int.toNat (lenSl (rlOf [[Col.int .i64 x671, Col.int .u64 x673], [], []] 0) (Option.some x679) Option.none)) x673 0))), .i (x675), .i (x677)])
          (none))
       (fun r681 =>
        un_nil r681 <|
        none)
       top (s0) (s1) (x662) (x664) (x668) (x666))
def set_DeleteFunc (s0 : List Int) (s1 : List Int) (now : Int) (r : Int) : Option (List Leaf) := set_DeleteFunc_d @set_DeleteFunc_5_L s0 s1 now r
def rset_Update (s_l0 : List Int) (s_l1 : List Int) (x : Int) (now : Int) (r : Int) : Option (List Leaf) :=
  one (maxI now 0) fun x682 =>
  one (minI x682 4611686018427387904) fun x683 =>
  one (maxI r 0) fun x684 =>
  one (minI x684 1099511627776) fun x685 =>
  chk (decide (Int.ofNat (List.length s_l0) = Int.ofNat (List.length s_l0)) && true && decide ((Int.ofNat (List.length s_l0) + (↑(1 : Nat) : Int)) * (↑(nat_lit 16) : Int) ≤ (140737488355328 : Int) ∧ Int.ofNat (List.length s_l0) + (↑(1 : Nat) : Int) ≤ (4611686018427387904 : Int))) <|
  chk (decide (Int.ofNat (List.length s_l0) = Int.ofNat (List.length s_l0)) && true && decide ((Int.ofNat (List.length s_l0) + (↑(1 : Nat) : Int)) * (↑(nat_lit 16) : Int) ≤ (140737488355328 : Int) ∧ Int.ofNat (List.length s_l0) + (↑(1 : Nat) : Int) ≤ (4611686018427387904 : Int))) <|
  chk (decide (Int.ofNat (List.length s_l0) + (↑(1 : Nat) : Int) = Int.ofNat (List.length (s_l0 ++ [x683]))) && true) <|
  out (set_DeleteFunc (s_l0 ++ [x683]) (s_l1 ++ [x]) x683 x685) fun r686 =>
  un_li r686 fun x687 r688 =>
  un_li r688 fun x689 r690 =>
  un_i r690 fun x691 r692 =>
  un_i r692 fun x693 r694 =>
  un_nil r694 <|
  one (Int.ofNat (List.length x687)) fun x695 =>
  one (subI .i64 x695 8) fun x696 =>
  one (maxI x696 0) fun x697 =>
  chk (condSl (rlOf [[], [], [], [Col.int .i64 x687, Col.int .u64 x689]] (3 : Nat)) (Option.some x697) Option.none) <|
  chk (decide (x697 + lenSl (rlOf [[], [], [], [Col.int .i64 x687, Col.int .u64 x689]] (3 : Nat)) (Option.some x697) Option.none ≤ Int.ofNat (List.length x687))) <|
  chk (decide (lenSl (rlOf [[], [], [], [Col.int .i64 x687, Col.int .u64 x689]] (3 : Nat)) (Option.some x697) Option.none = Int.ofNat (List.length (List.take (Int.toNat (lenSl (rlOf [[], [], [], [Col.int .i64 x687, Col.int .u64 x689]] (3 : Nat)) (Option.some x697) Option.none)) (List.drop (Int.toNat x697) x687)))) && true && true) <|
  some [.li (List.take (Int.toNat (lenSl (rlOf [[], [], [], [Col.int .i64 x687, Col.int .u64 x689]] 3) (Option.some x697) Option.none)) (List.drop (Int.toNat x697) x687)), .li (List.take (Int.toNat (lenSl (rlOf [[], [], [], [Col.int .i64 x687, Col.int .u64 x689]] 3) (Option.some x697) Option.none)) (List.drop (Int.toNat x697) x689))]
end Go.Sx.T

