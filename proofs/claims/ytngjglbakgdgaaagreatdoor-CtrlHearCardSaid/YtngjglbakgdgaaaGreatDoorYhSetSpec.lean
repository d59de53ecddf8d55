import Derived.Test.YtngjglbakgdgaaaGreatDoorYLowSpec
set_option linter.all false
namespace Go.Sx.T
open Go Go.Sx
def rset_New  : Option (List Leaf) :=
  chk (decide ((↑(1 : Nat) : Int) = Int.ofNat (List.length [(0 : Int)])) && true && true) <|
  some [.li ([0]), .li ([18446744073709551615])]
def rset_Len (s_l0 : List Int) (s_l1 : List Int) : Option (List Leaf) :=
  one (Int.ofNat (List.length s_l0)) fun x499 =>
  some [.i (x499)]
def rset_Max_3_B  {α : Type} (kx : Nat → List Leaf → Option α) (kr : List Leaf → Option α) (again : List Int → List Int → Int → Int → Int → Option α) (s_l0 : List Int) (s_l1 : List Int) (t7 : Int) (most : Int) (t6 : Int) : Option α :=
  br (decide (t7 < t6))
    (chk (decide ((0 : Int) ≤ t7 ∧ t7 < Int.ofNat (List.length s_l0))) <|
     chk (decide ((0 : Int) ≤ t7 ∧ t7 < Int.ofNat (List.length s_l0))) <|
     one (maxI most (List.getD s_l1 (Int.toNat t7) 0)) fun x505 =>
     one (addI .i64 t7 1) fun x506 =>
     chk (decide (Int.ofNat (List.length s_l0) = Int.ofNat (List.length s_l0)) && true && true) <|
     again (s_l0) (s_l1) (x506) (x505) (t6))
    (chk (decide (Int.ofNat (List.length s_l0) = Int.ofNat (List.length s_l0)) && true && true) <|
     kx 0 [.li (s_l0), .li (s_l1), .i (most)])
def rset_Max_3_L {α : Type} (kx : Nat → List Leaf → Option α) (kr : List Leaf → Option α) : Nat → List Int → List Int → Int → Int → Int → Option α
  | 0, _, _, _, _, _ => none
  | n + 1, s_l0, s_l1, t7, most, t6 => rset_Max_3_B  kx kr (rset_Max_3_L kx kr n) s_l0 s_l1 t7 most t6
def rset_Max_3_F (L3 : ({β : Type} → (Nat → List Leaf → Option β) → (List Leaf → Option β) → Nat → List Int → List Int → Int → Int → Int → Option β)) {α : Type} (n : Nat) (ls : List Leaf) (kx : Nat → List Leaf → Option α) (kr : List Leaf → Option α) : Option α := un_li ls fun s_l0 rr => un_li rr fun s_l1 rr => un_i rr fun t7 rr => un_i rr fun most rr => un_i rr fun t6 rr => un_nil rr (L3 kx kr n s_l0 s_l1 t7 most t6)
def rset_Max_d (L3 : ({β : Type} → (Nat → List Leaf → Option β) → (List Leaf → Option β) → Nat → List Int → List Int → Int → Int → Int → Option β)) (s_l0 : List Int) (s_l1 : List Int) : Option (List Leaf) :=
  chk (decide (Int.ofNat (List.length s_l0) = Int.ofNat (List.length s_l0)) && true && true) <|
  out (rset_Len s_l0 s_l1) fun r507 =>
  un_i r507 fun x508 r509 =>
  un_nil r509 <|
  chk (decide (Int.ofNat (List.length s_l0) = Int.ofNat (List.length s_l0)) && true && true) <|
  L3
    (fun i510 r511 =>
     br (Nat.beq 0 i510)
       (un_li r511 fun x512 r513 =>
        un_li r513 fun x514 r515 =>
        un_i r515 fun x516 r517 =>
        un_nil r517 <|
        some [.i (x516)])
       (none))
    (fun r518 =>
     un_nil r518 <|
     none)
    top (s_l0) (s_l1) (0) (0) (x508)
def rset_Max (s_l0 : List Int) (s_l1 : List Int) : Option (List Leaf) := rset_Max_d @rset_Max_3_L s_l0 s_l1
def rset_Only (s_l0 : List Int) (s_l1 : List Int) (x : Int) (now : Int) : Option (List Leaf) :=
  one (maxI now 0) fun x519 =>
  one (minI x519 4611686018427387904) fun x520 =>
  chk (decide ((↑(1 : Nat) : Int) = Int.ofNat (List.length [x520])) && true && true) <|
  some [.li ([x520]), .li ([x])]
def rset_Maximize_1_B  {α : Type} (kx : Nat → List Leaf → Option α) (kr : List Leaf → Option α) (again : List Int → List Int → Int → Int → Int → Int → Option α) (s_l0 : List Int) (s_l1 : List Int) (t9 : Int) (x : Int) (now : Int) (t8 : Int) : Option α :=
  br (decide (t9 < t8))
    (chk (decide ((0 : Int) ≤ t9 ∧ t9 < Int.ofNat (List.length s_l0))) <|
     chk (decide ((0 : Int) ≤ t9 ∧ t9 < Int.ofNat (List.length s_l0))) <|
     br (List.getD s_l1 (Int.toNat t9) 0 != 18446744073709551615)
       (chk (decide ((0 : Int) ≤ t9 ∧ t9 < Int.ofNat (List.length s_l0))) <|
        chk (decide ((0 : Int) ≤ t9 ∧ t9 < Int.ofNat (List.length s_l0))) <|
        one (maxI x (List.getD s_l1 (Int.toNat t9) 0)) fun x527 =>
        one (addI .i64 t9 1) fun x528 =>
        chk (decide (Int.ofNat (List.length s_l0) = Int.ofNat (List.length s_l0)) && true && true) <|
        again (s_l0) (s_l1) (x528) (x527) (now) (t8))
       (one (addI .i64 t9 1) fun x529 =>
        chk (decide (Int.ofNat (List.length s_l0) = Int.ofNat (List.length s_l0)) && true && true) <|
        again (s_l0) (s_l1) (x529) (x) (now) (t8)))
    (chk (decide (Int.ofNat (List.length s_l0) = Int.ofNat (List.length s_l0)) && true && true) <|
     kx 0 [.li (s_l0), .li (s_l1), .i (now), .i (x)])
def rset_Maximize_1_L {α : Type} (kx : Nat → List Leaf → Option α) (kr : List Leaf → Option α) : Nat → List Int → List Int → Int → Int → Int → Int → Option α
  | 0, _, _, _, _, _, _ => none
  | n + 1, s_l0, s_l1, t9, x, now, t8 => rset_Maximize_1_B  kx kr (rset_Maximize_1_L kx kr n) s_l0 s_l1 t9 x now t8
def rset_Maximize_1_F (L1 : ({β : Type} → (Nat → List Leaf → Option β) → (List Leaf → Option β) → Nat → List Int → List Int → Int → Int → Int → Int → Option β)) {α : Type} (n : Nat) (ls : List Leaf) (kx : Nat → List Leaf → Option α) (kr : List Leaf → Option α) : Option α := un_li ls fun s_l0 rr => un_li rr fun s_l1 rr => un_i rr fun t9 rr => un_i rr fun x rr => un_i rr fun now rr => un_i rr fun t8 rr => un_nil rr (L1 kx kr n s_l0 s_l1 t9 x now t8)
def rset_Maximize_d (L1 : ({β : Type} → (Nat → List Leaf → Option β) → (List Leaf → Option β) → Nat → List Int → List Int → Int → Int → Int → Int → Option β)) (s_l0 : List Int) (s_l1 : List Int) (x : Int) (now : Int) : Option (List Leaf) :=
  chk (decide (Int.ofNat (List.length s_l0) = Int.ofNat (List.length s_l0)) && true && true) <|
  out (rset_Len s_l0 s_l1) fun r530 =>
  un_i r530 fun x531 r532 =>
  un_nil r532 <|
  chk (decide (Int.ofNat (List.length s_l0) = Int.ofNat (List.length s_l0)) && true && true) <|
  L1
    (fun i533 r534 =>
     br (Nat.beq 0 i533)
       (un_li r534 fun x535 r536 =>
        un_li r536 fun x537 r538 =>
        un_i r538 fun x539 r540 =>
        un_i r540 fun x541 r542 =>
        un_nil r542 <|
        chk (decide (Int.ofNat (List.length x535) = Int.ofNat (List.length x535)) && true && true) <|
        out (rset_Only x535 x537 x541 x539) fun r543 =>
        un_li r543 fun x544 r545 =>
        un_li r545 fun x546 r547 =>
        un_nil r547 <|
        chk (decide (Int.ofNat (List.length x544) = Int.ofNat (List.length x544)) && true && true) <|
        some [.li (x544), .li (x546)])
       (none))
    (fun r548 =>
     un_nil r548 <|
     none)
    top (s_l0) (s_l1) (0) (x) (now) (x531)
def rset_Maximize (s_l0 : List Int) (s_l1 : List Int) (x : Int) (now : Int) : Option (List Leaf) := rset_Maximize_d @rset_Maximize_1_L s_l0 s_l1 x now
def rset_Halve_1_B  {α : Type} (kx : Nat → List Leaf → Option α) (kr : List Leaf → Option α) (again : List Int → List Int → Int → Int → Option α) (s_l0 : List Int) (s_l1 : List Int) (t5 : Int) (t4 : Int) : Option α :=
  br (decide (t5 < t4))
    (chk (decide ((0 : Int) ≤ t5 ∧ t5 < Int.ofNat (List.length s_l0))) <|
     chk (decide ((0 : Int) ≤ t5 ∧ t5 < Int.ofNat (List.length s_l0))) <|
     br (List.getD s_l1 (Int.toNat t5) 0 != 18446744073709551615)
       (chk (decide ((0 : Int) ≤ t5 ∧ t5 < Int.ofNat (List.length s_l0))) <|
        chk (decide ((0 : Int) ≤ t5 ∧ t5 < Int.ofNat (List.length s_l0))) <|
        one (quoI .u64 (List.getD s_l1 (Int.toNat t5) 0) 2) fun x555 =>
        chk (decide ((0 : Int) ≤ t5 ∧ t5 < Int.ofNat (List.length s_l0))) <|
        chk (decide ((0 : Int) ≤ t5 ∧ t5 < Int.ofNat (List.length s_l0))) <|
        one (addI .i64 t5 1) fun x556 =>
        chk (decide (Int.ofNat (List.length s_l0) = Int.ofNat (List.length s_l0)) && true && true) <|
        again (s_l0) (List.set s_l1 (Int.toNat t5) x555) (x556) (t4))
       (one (addI .i64 t5 1) fun x557 =>
        chk (decide (Int.ofNat (List.length s_l0) = Int.ofNat (List.length s_l0)) && true && true) <|
        again (s_l0) (s_l1) (x557) (t4)))
    (chk (decide (Int.ofNat (List.length s_l0) = Int.ofNat (List.length s_l0)) && true && true) <|
     kx 0 [.li (s_l0), .li (s_l1)])
def rset_Halve_1_L {α : Type} (kx : Nat → List Leaf → Option α) (kr : List Leaf → Option α) : Nat → List Int → List Int → Int → Int → Option α
  | 0, _, _, _, _ => none
  | n + 1, s_l0, s_l1, t5, t4 => rset_Halve_1_B  kx kr (rset_Halve_1_L kx kr n) s_l0 s_l1 t5 t4
def rset_Halve_1_F (L1 : ({β : Type} → (Nat → List Leaf → Option β) → (List Leaf → Option β) → Nat → List Int → List Int → Int → Int → Option β)) {α : Type} (n : Nat) (ls : List Leaf) (kx : Nat → List Leaf → Option α) (kr : List Leaf → Option α) : Option α := un_li ls fun s_l0 rr => un_li rr fun s_l1 rr => un_i rr fun t5 rr => un_i rr fun t4 rr => un_nil rr (L1 kx kr n s_l0 s_l1 t5 t4)
def rset_Halve_d (L1 : ({β : Type} → (Nat → List Leaf → Option β) → (List Leaf → Option β) → Nat → List Int → List Int → Int → Int → Option β)) (s_l0 : List Int) (s_l1 : List Int) : Option (List Leaf) :=
  chk (decide (Int.ofNat (List.length s_l0) = Int.ofNat (List.length s_l0)) && true && true) <|
  out (rset_Len s_l0 s_l1) fun r558 =>
  un_i r558 fun x559 r560 =>
  un_nil r560 <|
  chk (decide (Int.ofNat (List.length s_l0) = Int.ofNat (List.length s_l0)) && true && true) <|
  L1
    (fun i561 r562 =>
     br (Nat.beq 0 i561)
       (un_li r562 fun x563 r564 =>
        un_li r564 fun x565 r566 =>
        un_nil r566 <|
        chk (decide (Int.ofNat (List.length x563) = Int.ofNat (List.length x563)) && true && true) <|
        some [.li (x563), .li (x565)])
       (none))
    (fun r567 =>
     un_nil r567 <|
     none)
    top (s_l0) (s_l1) (0) (x559)
def rset_Halve (s_l0 : List Int) (s_l1 : List Int) : Option (List Leaf) := rset_Halve_d @rset_Halve_1_L s_l0 s_l1
def rset_Update_1 (now : Int) (r : Int) (p_at : Int) (p_x : Int) : Option (List Leaf) :=
  one (mulI .i64 2 r) fun x568 =>
  one (subI .i64 now x568) fun x569 =>
  some [.i (now), .i (r), .b (decide (p_at < x569))]
def set_IndexFunc_2_B  {α : Type} (kx : Nat → List Leaf → Option α) (kr : List Leaf → Option α) (again : List Int → List Int → Int → Int → Int → Int → Option α) (s0 : List Int) (s1 : List Int) (now : Int) (r : Int) (t8 : Int) (t7 : Int) : Option α :=
  br (decide (t8 < t7))
    (chk (decide ((0 : Int) ≤ t8 ∧ t8 < Int.ofNat (List.length s0))) <|
     chk (decide ((0 : Int) ≤ t8 ∧ t8 < Int.ofNat (List.length s0))) <|
     out (rset_Update_1 now r (List.getD s0 (Int.toNat t8) 0) (List.getD s1 (Int.toNat t8) 0)) fun r579 =>
     un_i r579 fun x580 r581 =>
     un_i r581 fun x582 r583 =>
     un_b r583 fun x584 r585 =>
     un_nil r585 <|
     br (x584)
       (kr [.li (s0), .li (s1), .i (x580), .i (x582), .i (t8)])
       (one (addI .i64 t8 1) fun x586 =>
        chk (decide (Int.ofNat (List.length s0) = Int.ofNat (List.length s0)) && true) <|
        again (s0) (s1) (x580) (x582) (x586) (t7)))
    (kx 0 [.li (s0), .li (s1), .i (now), .i (r)])
def set_IndexFunc_2_L {α : Type} (kx : Nat → List Leaf → Option α) (kr : List Leaf → Option α) : Nat → List Int → List Int → Int → Int → Int → Int → Option α
  | 0, _, _, _, _, _, _ => none
  | n + 1, s0, s1, now, r, t8, t7 => set_IndexFunc_2_B  kx kr (set_IndexFunc_2_L kx kr n) s0 s1 now r t8 t7
def set_IndexFunc_2_F (L2 : ({β : Type} → (Nat → List Leaf → Option β) → (List Leaf → Option β) → Nat → List Int → List Int → Int → Int → Int → Int → Option β)) {α : Type} (n : Nat) (ls : List Leaf) (kx : Nat → List Leaf → Option α) (kr : List Leaf → Option α) : Option α := un_li ls fun s0 rr => un_li rr fun s1 rr => un_i rr fun now rr => un_i rr fun r rr => un_i rr fun t8 rr => un_i rr fun t7 rr => un_nil rr (L2 kx kr n s0 s1 now r t8 t7)
def set_IndexFunc_d (L2 : ({β : Type} → (Nat → List Leaf → Option β) → (List Leaf → Option β) → Nat → List Int → List Int → Int → Int → Int → Int → Option β)) (s0 : List Int) (s1 : List Int) (now : Int) (r : Int) : Option (List Leaf) :=
  one (Int.ofNat (List.length s0)) fun x587 =>
  chk (decide (Int.ofNat (List.length s0) = Int.ofNat (List.length s0)) && true) <|
  L2
    (fun i588 r589 =>
     br (Nat.beq 0 i588)
       (un_li r589 fun x590 r591 =>
        un_li r591 fun x592 r593 =>
        un_i r593 fun x594 r595 =>
        un_i r595 fun x596 r597 =>
        un_nil r597 <|
        some [.i (x594), .i (x596), .i (-1)])
       (none))
    (fun r598 =>
     un_li r598 fun x599 r600 =>
     un_li r600 fun x601 r602 =>
     un_i r602 fun x603 r604 =>
     un_i r604 fun x605 r606 =>
     un_i r606 fun x607 r608 =>
     un_nil r608 <|
     some [.i (x603), .i (x605), .i (x607)])
    top (s0) (s1) (now) (r) (0) (x587)
def set_IndexFunc (s0 : List Int) (s1 : List Int) (now : Int) (r : Int) : Option (List Leaf) := set_IndexFunc_d @set_IndexFunc_2_L s0 s1 now r
def set_DeleteFunc_5_B  {α : Type} (kx : Nat → List Leaf → Option α) (kr : List Leaf → Option α) (again : List Int → List Int → Int → Int → Int → Int → Option α) (s0 : List Int) (s1 : List Int) (now : Int) (r : Int) (j : Int) (i : Int) : Option α :=
  one (Int.ofNat (List.length s0)) fun x628 =>
  br (decide (j < x628))
    (chk (decide ((0 : Int) ≤ j ∧ j < Int.ofNat (List.length s0))) <|
     chk (decide ((0 : Int) ≤ j ∧ j < Int.ofNat (List.length s0))) <|
     out (rset_Update_1 now r (List.getD s0 (Int.toNat j) 0) (List.getD s1 (Int.toNat j) 0)) fun r629 =>
     un_i r629 fun x630 r631 =>
     un_i r631 fun x632 r633 =>
     un_b r633 fun x634 r635 =>
     un_nil r635 <|
     br (!x634)
       (chk (decide ((0 : Int) ≤ i ∧ i < Int.ofNat (List.length s0))) <|
        chk (decide ((0 : Int) ≤ i ∧ i < Int.ofNat (List.length s0))) <|
        one (addI .i64 i 1) fun x636 =>
        one (addI .i64 j 1) fun x637 =>
        chk (decide (Int.ofNat (List.length s0) = Int.ofNat (List.length (List.set s0 (Int.toNat i) (List.getD s0 (Int.toNat j) (0 : Int))))) && true) <|
        again (List.set s0 (Int.toNat i) (List.getD s0 (Int.toNat j) 0)) (List.set s1 (Int.toNat i) (List.getD s1 (Int.toNat j) 0)) (x630) (x632) (x637) (x636))
       (one (addI .i64 j 1) fun x638 =>
        chk (decide (Int.ofNat (List.length s0) = Int.ofNat (List.length s0)) && true) <|
        again (s0) (s1) (x630) (x632) (x638) (i)))
    (chk (decide (Int.ofNat (List.length s0) = Int.ofNat (List.length s0)) && true) <|
     kx 0 [.li (s0), .li (s1), .i (now), .i (r), .i (i)])
def set_DeleteFunc_5_L {α : Type} (kx : Nat → List Leaf → Option α) (kr : List Leaf → Option α) : Nat → List Int → List Int → Int → Int → Int → Int → Option α
  | 0, _, _, _, _, _, _ => none
  | n + 1, s0, s1, now, r, j, i => set_DeleteFunc_5_B  kx kr (set_DeleteFunc_5_L kx kr n) s0 s1 now r j i
def set_DeleteFunc_5_F (L5 : ({β : Type} → (Nat → List Leaf → Option β) → (List Leaf → Option β) → Nat → List Int → List Int → Int → Int → Int → Int → Option β)) {α : Type} (n : Nat) (ls : List Leaf) (kx : Nat → List Leaf → Option α) (kr : List Leaf → Option α) : Option α := un_li ls fun s0 rr => un_li rr fun s1 rr => un_i rr fun now rr => un_i rr fun r rr => un_i rr fun j rr => un_i rr fun i rr => un_nil rr (L5 kx kr n s0 s1 now r j i)
def set_DeleteFunc_d (L5 : ({β : Type} → (Nat → List Leaf → Option β) → (List Leaf → Option β) → Nat → List Int → List Int → Int → Int → Int → Int → Option β)) (s0 : List Int) (s1 : List Int) (now : Int) (r : Int) : Option (List Leaf) :=
  chk (decide (Int.ofNat (List.length s0) = Int.ofNat (List.length s0)) && true) <|
  out (set_IndexFunc s0 s1 now r) fun r639 =>
  un_i r639 fun x640 r641 =>
  un_i r641 fun x642 r643 =>
  un_i r643 fun x644 r645 =>
  un_nil r645 <|
  br (x644 == -1)
    (chk (decide (Int.ofNat (nat_lit 0) + Int.ofNat (List.length s0) ≤ Int.ofNat (List.length s0))) <|
     chk (decide (Int.ofNat (List.length s0) = Int.ofNat (List.length (List.take (Int.toNat (Int.ofNat (List.length s0))) (List.drop (Int.toNat (Int.ofNat (nat_lit 0))) s0)))) && true) <|
     some [.li (List.take (Int.toNat (Int.ofNat (List.length s0))) (List.drop (Int.toNat (Int.ofNat 0)) s0)), .li (List.take (Int.toNat (Int.ofNat (List.length s0))) (List.drop (Int.toNat (Int.ofNat 0)) s1)), .i (x640), .i (x642)])
    (one (addI .i64 x644 1) fun x646 =>
     chk (decide (Int.ofNat (List.length s0) = Int.ofNat (List.length s0)) && true) <|
     L5
       (fun i647 r648 =>
        br (Nat.beq 0 i647)
          (un_li r648 fun x649 r650 =>
           un_li r650 fun x651 r652 =>
           un_i r652 fun x653 r654 =>
           un_i r654 fun x655 r656 =>
           un_i r656 fun x657 r658 =>
           un_nil r658 <|
           chk (condSl (rlOf [[Col.int .i64 x649, Col.int .u64 x651], [], []] (0 : Nat)) (Option.some x657) Option.none) <|
           chk (rowIn (Option.some (offAdd Option.none x657)) (lenSl (rlOf [[Col.int .i64 x649, Col.int .u64 x651], [], []] (0 : Nat)) (Option.some x657) Option.none) (Int.ofNat (List.length x649))) <|
           chk (condSl (rlOf [[Col.int .i64 x649, Col.int .u64 x651], [], []] (0 : Nat)) Option.none (Option.some x657)) <|
           chk (decide (Int.ofNat (nat_lit 0) + x657 ≤ Int.ofNat (List.length x649))) <|
           chk (decide (x657 = Int.ofNat (List.length (List.take (Int.toNat x657) (List.drop (Int.toNat (Int.ofNat (nat_lit 0))) (wipeL (Int.toNat (Option.getD (cutOff (isRo [AObj.row (178 : Go.TypeId) (2 : Nat) (colsN [Col.int .i64 x649, Col.int .u64 x651]) [Col.int .i64 x649, Col.int .u64 x651], AObj.cells (2 : Go.TypeId) [A.raw (Go.Value.int .i64 x653)], AObj.cells (2 : Go.TypeId) [A.raw (Go.Value.int .i64 x655)]] (0 : Nat)) Option.none (Option.some x657) Option.none) (0 : Int))) (Int.toNat (lenSl (rlOf [[Col.int .i64 x649, Col.int .u64 x651], [], []] (0 : Nat)) (Option.some x657) Option.none)) x649 (0 : Int)))))) && true) <|
           some [.li (List.take (Int.toNat x657) (List.drop (Int.toNat (Int.ofNat 0)) (wipeL (Int.toNat (Option.getD (cutOff (isRo [AObj.row 178 2 (colsN [Col.int .i64 x649, Col.int .u64 x651]) [Col.int .i64 x649, Col.int .u64 x651], AObj.cells 2 [A.raw (Go.Value.int .i64 x653)], AObj.cells 2 [A.raw (Go.Value.int .i64 x655)]] 0) Option.none (Option.some x657) Option.none) 0)) (Int.toNat (lenSl (rlOf [[Col.int .i64 x649, Col.int .u64 x651], [], []] 0) (Option.some x657) Option.none)) x649 0))), .li (List.take (Int.toNat x657) (List.drop (Int.toNat (Int.ofNat 0)) (wipeL (Int.toNat (Option.getD (cutOff (isRo [AObj.row 178 2 (colsN [Col.int .i64 x649, Col.int .u64 x651]) [Col.int .i64 x649, Col.int .u64 x651], AObj.cells 2 [A.raw (Go.Value.int .i64 x653)], AObj.cells 2 [A.raw (Go.Value.int .i64 x655)]] 0) Option.none (Option.some x657) Option.none) 0)) (Int.toNat (lenSl (rlOf [[Col.int .i64 x649, Col.int .u64 x651], [], []] 0) (Option.some x657) Option.none)) x651 0))), .i (x653), .i (x655)])
          (none))
       (fun r659 =>
        un_nil r659 <|
        none)
       top (s0) (s1) (x640) (x642) (x646) (x644))
def set_DeleteFunc (s0 : List Int) (s1 : List Int) (now : Int) (r : Int) : Option (List Leaf) := set_DeleteFunc_d @set_DeleteFunc_5_L s0 s1 now r
def rset_Update (s_l0 : List Int) (s_l1 : List Int) (x : Int) (now : Int) (r : Int) : Option (List Leaf) :=
  one (maxI now 0) fun x660 =>
  one (minI x660 4611686018427387904) fun x661 =>
  one (maxI r 0) fun x662 =>
  one (minI x662 1099511627776) fun x663 =>
  chk (decide (Int.ofNat (List.length s_l0) = Int.ofNat (List.length s_l0)) && true && decide ((Int.ofNat (List.length s_l0) + (↑(1 : Nat) : Int)) * (↑(nat_lit 16) : Int) ≤ (140737488355328 : Int) ∧ Int.ofNat (List.length s_l0) + (↑(1 : Nat) : Int) ≤ (4611686018427387904 : Int))) <|
  chk (decide (Int.ofNat (List.length s_l0) = Int.ofNat (List.length s_l0)) && true && decide ((Int.ofNat (List.length s_l0) + (↑(1 : Nat) : Int)) * (↑(nat_lit 16) : Int) ≤ (140737488355328 : Int) ∧ Int.ofNat (List.length s_l0) + (↑(1 : Nat) : Int) ≤ (4611686018427387904 : Int))) <|
  chk (decide (Int.ofNat (List.length s_l0) + (↑(1 : Nat) : Int) = Int.ofNat (List.length (s_l0 ++ [x661]))) && true) <|
  out (set_DeleteFunc (s_l0 ++ [x661]) (s_l1 ++ [x]) x661 x663) fun r664 =>
  un_li r664 fun x665 r666 =>
  un_li r666 fun x667 r668 =>
  un_i r668 fun x669 r670 =>
  un_i r670 fun x671 r672 =>
  un_nil r672 <|
  one (Int.ofNat (List.length x665)) fun x673 =>
  one (subI .i64 x673 8) fun x674 =>
  one (maxI x674 0) fun x675 =>
  chk (condSl (rlOf [[], [], [], [Col.int .i64 x665, Col.int .u64 x667]] (3 : Nat)) (Option.some x675) Option.none) <|
  chk (decide (x675 + lenSl (rlOf [[], [], [], [Col.int .i64 x665, Col.int .u64 x667]] (3 : Nat)) (Option.some x675) Option.none ≤ Int.ofNat (List.length x665))) <|
  chk (decide (lenSl (rlOf [[], [], [], [Col.int .i64 x665, Col.int .u64 x667]] (3 : Nat)) (Option.some x675) Option.none = Int.ofNat (List.length (List.take (Int.toNat (lenSl (rlOf [[], [], [], [Col.int .i64 x665, Col.int .u64 x667]] (3 : Nat)) (Option.some x675) Option.none)) (List.drop (Int.toNat x675) x665)))) && true && true) <|
  some [.li (List.take (Int.toNat (lenSl (rlOf [[], [], [], [Col.int .i64 x665, Col.int .u64 x667]] 3) (Option.some x675) Option.none)) (List.drop (Int.toNat x675) x665)), .li (List.take (Int.toNat (lenSl (rlOf [[], [], [], [Col.int .i64 x665, Col.int .u64 x667]] 3) (Option.some x675) Option.none)) (List.drop (Int.toNat x675) x667))]
end Go.Sx.T

