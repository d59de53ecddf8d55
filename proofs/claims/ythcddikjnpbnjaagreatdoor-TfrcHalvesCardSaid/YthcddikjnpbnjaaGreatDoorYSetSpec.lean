import Derived.Test.YthcddikjnpbnjaaGreatDoorYLowSpec
set_option linter.all false
namespace Go.Sx.T
open Go Go.Sx
def rset_New  : Option (List Leaf) :=
  chk (decide ((↑(1 : Nat) : Int) = Int.ofNat (List.length [(0 : Int)])) && true && true) <|
  some [.li ([0]), .li ([18446744073709551615])]
def rset_Len (s_l0 : List Int) (s_l1 : List Int) : Option (List Leaf) :=
  one (Int.ofNat (List.length s_l0)) fun x433 =>
  some [.i (x433)]
def rset_Max_3_B  {α : Type} (kx : Nat → List Leaf → Option α) (kr : List Leaf → Option α) (again : List Int → List Int → Int → Int → Int → Option α) (s_l0 : List Int) (s_l1 : List Int) (t7 : Int) (most : Int) (t6 : Int) : Option α :=
  br (decide (t7 < t6))
    (chk (decide ((0 : Int) ≤ t7 ∧ t7 < Int.ofNat (List.length s_l0))) <|
     chk (decide ((0 : Int) ≤ t7 ∧ t7 < Int.ofNat (List.length s_l0))) <|
     one (maxI most (List.getD s_l1 (Int.toNat t7) 0)) fun x439 =>
     one (addI .i64 t7 1) fun x440 =>
     chk (decide (Int.ofNat (List.length s_l0) = Int.ofNat (List.length s_l0)) && true && true) <|
     again (s_l0) (s_l1) (x440) (x439) (t6))
    (chk (decide (Int.ofNat (List.length s_l0) = Int.ofNat (List.length s_l0)) && true && true) <|
     kx 0 [.li (s_l0), .li (s_l1), .i (most)])
def rset_Max_3_L {α : Type} (kx : Nat → List Leaf → Option α) (kr : List Leaf → Option α) : Nat → List Int → List Int → Int → Int → Int → Option α
  | 0, _, _, _, _, _ => none
  | n + 1, s_l0, s_l1, t7, most, t6 => rset_Max_3_B  kx kr (rset_Max_3_L kx kr n) s_l0 s_l1 t7 most t6
def rset_Max_3_F (L3 : ({β : Type} → (Nat → List Leaf → Option β) → (List Leaf → Option β) → Nat → List Int → List Int → Int → Int → Int → Option β)) {α : Type} (n : Nat) (ls : List Leaf) (kx : Nat → List Leaf → Option α) (kr : List Leaf → Option α) : Option α := un_li ls fun s_l0 rr => un_li rr fun s_l1 rr => un_i rr fun t7 rr => un_i rr fun most rr => un_i rr fun t6 rr => un_nil rr (L3 kx kr n s_l0 s_l1 t7 most t6)
def rset_Max_d (L3 : ({β : Type} → (Nat → List Leaf → Option β) → (List Leaf → Option β) → Nat → List Int → List Int → Int → Int → Int → Option β)) (s_l0 : List Int) (s_l1 : List Int) : Option (List Leaf) :=
  chk (decide (Int.ofNat (List.length s_l0) = Int.ofNat (List.length s_l0)) && true && true) <|
  out (rset_Len s_l0 s_l1) fun r441 =>
  un_i r441 fun x442 r443 =>
  un_nil r443 <|
  chk (decide (Int.ofNat (List.length s_l0) = Int.ofNat (List.length s_l0)) && true && true) <|
  L3
    (fun i444 r445 =>
     br (Nat.beq 0 i444)
       (un_li r445 fun x446 r447 =>
        un_li r447 fun x448 r449 =>
        un_i r449 fun x450 r451 =>
        un_nil r451 <|
        some [.i (x450)])
       (none))
    (fun r452 =>
     un_nil r452 <|
     none)
    top (s_l0) (s_l1) (0) (0) (x442)
def rset_Max (s_l0 : List Int) (s_l1 : List Int) : Option (List Leaf) := rset_Max_d @rset_Max_3_L s_l0 s_l1
def rset_Only (s_l0 : List Int) (s_l1 : List Int) (x : Int) (now : Int) : Option (List Leaf) :=
  one (maxI now 0) fun x453 =>
  one (minI x453 4611686018427387904) fun x454 =>
  chk (decide ((↑(1 : Nat) : Int) = Int.ofNat (List.length [x454])) && true && true) <|
  some [.li ([x454]), .li ([x])]
def rset_Maximize_1_B  {α : Type} (kx : Nat → List Leaf → Option α) (kr : List Leaf → Option α) (again : List Int → List Int → Int → Int → Int → Int → Option α) (s_l0 : List Int) (s_l1 : List Int) (t9 : Int) (x : Int) (now : Int) (t8 : Int) : Option α :=
  br (decide (t9 < t8))
    (chk (decide ((0 : Int) ≤ t9 ∧ t9 < Int.ofNat (List.length s_l0))) <|
     chk (decide ((0 : Int) ≤ t9 ∧ t9 < Int.ofNat (List.length s_l0))) <|
     br (List.getD s_l1 (Int.toNat t9) 0 != 18446744073709551615)
       (chk (decide ((0 : Int) ≤ t9 ∧ t9 < Int.ofNat (List.length s_l0))) <|
        chk (decide ((0 : Int) ≤ t9 ∧ t9 < Int.ofNat (List.length s_l0))) <|
        one (maxI x (List.getD s_l1 (Int.toNat t9) 0)) fun x461 =>
        one (addI .i64 t9 1) fun x462 =>
        chk (decide (Int.ofNat (List.length s_l0) = Int.ofNat (List.length s_l0)) && true && true) <|
        again (s_l0) (s_l1) (x462) (x461) (now) (t8))
       (one (addI .i64 t9 1) fun x463 =>
        chk (decide (Int.ofNat (List.length s_l0) = Int.ofNat (List.length s_l0)) && true && true) <|
        again (s_l0) (s_l1) (x463) (x) (now) (t8)))
    (chk (decide (Int.ofNat (List.length s_l0) = Int.ofNat (List.length s_l0)) && true && true) <|
     kx 0 [.li (s_l0), .li (s_l1), .i (now), .i (x)])
def rset_Maximize_1_L {α : Type} (kx : Nat → List Leaf → Option α) (kr : List Leaf → Option α) : Nat → List Int → List Int → Int → Int → Int → Int → Option α
  | 0, _, _, _, _, _, _ => none
  | n + 1, s_l0, s_l1, t9, x, now, t8 => rset_Maximize_1_B  kx kr (rset_Maximize_1_L kx kr n) s_l0 s_l1 t9 x now t8
def rset_Maximize_1_F (L1 : ({β : Type} → (Nat → List Leaf → Option β) → (List Leaf → Option β) → Nat → List Int → List Int → Int → Int → Int → Int → Option β)) {α : Type} (n : Nat) (ls : List Leaf) (kx : Nat → List Leaf → Option α) (kr : List Leaf → Option α) : Option α := un_li ls fun s_l0 rr => un_li rr fun s_l1 rr => un_i rr fun t9 rr => un_i rr fun x rr => un_i rr fun now rr => un_i rr fun t8 rr => un_nil rr (L1 kx kr n s_l0 s_l1 t9 x now t8)
def rset_Maximize_d (L1 : ({β : Type} → (Nat → List Leaf → Option β) → (List Leaf → Option β) → Nat → List Int → List Int → Int → Int → Int → Int → Option β)) (s_l0 : List Int) (s_l1 : List Int) (x : Int) (now : Int) : Option (List Leaf) :=
  chk (decide (Int.ofNat (List.length s_l0) = Int.ofNat (List.length s_l0)) && true && true) <|
  out (rset_Len s_l0 s_l1) fun r464 =>
  un_i r464 fun x465 r466 =>
  un_nil r466 <|
  chk (decide (Int.ofNat (List.length s_l0) = Int.ofNat (List.length s_l0)) && true && true) <|
  L1
    (fun i467 r468 =>
     br (Nat.beq 0 i467)
       (un_li r468 fun x469 r470 =>
        un_li r470 fun x471 r472 =>
        un_i r472 fun x473 r474 =>
        un_i r474 fun x475 r476 =>
        un_nil r476 <|
        chk (decide (Int.ofNat (List.length x469) = Int.ofNat (List.length x469)) && true && true) <|
        out (rset_Only x469 x471 x475 x473) fun r477 =>
        un_li r477 fun x478 r479 =>
        un_li r479 fun x480 r481 =>
        un_nil r481 <|
        chk (decide (Int.ofNat (List.length x478) = Int.ofNat (List.length x478)) && true && true) <|
        some [.li (x478), .li (x480)])
       (none))
    (fun r482 =>
     un_nil r482 <|
     none)
    top (s_l0) (s_l1) (0) (x) (now) (x465)
def rset_Maximize (s_l0 : List Int) (s_l1 : List Int) (x : Int) (now : Int) : Option (List Leaf) := rset_Maximize_d @rset_Maximize_1_L s_l0 s_l1 x now
def rset_Halve_1_B  {α : Type} (kx : Nat → List Leaf → Option α) (kr : List Leaf → Option α) (again : List Int → List Int → Int → Int → Option α) (s_l0 : List Int) (s_l1 : List Int) (t5 : Int) (t4 : Int) : Option α :=
  br (decide (t5 < t4))
    (chk (decide ((0 : Int) ≤ t5 ∧ t5 < Int.ofNat (List.length s_l0))) <|
     chk (decide ((0 : Int) ≤ t5 ∧ t5 < Int.ofNat (List.length s_l0))) <|
     br (List.getD s_l1 (Int.toNat t5) 0 != 18446744073709551615)
       (chk (decide ((0 : Int) ≤ t5 ∧ t5 < Int.ofNat (List.length s_l0))) <|
        chk (decide ((0 : Int) ≤ t5 ∧ t5 < Int.ofNat (List.length s_l0))) <|
        one (quoI .u64 (List.getD s_l1 (Int.toNat t5) 0) 2) fun x489 =>
        chk (decide ((0 : Int) ≤ t5 ∧ t5 < Int.ofNat (List.length s_l0))) <|
        chk (decide ((0 : Int) ≤ t5 ∧ t5 < Int.ofNat (List.length s_l0))) <|
        one (addI .i64 t5 1) fun x490 =>
        chk (decide (Int.ofNat (List.length s_l0) = Int.ofNat (List.length s_l0)) && true && true) <|
        again (s_l0) (List.set s_l1 (Int.toNat t5) x489) (x490) (t4))
       (one (addI .i64 t5 1) fun x491 =>
        chk (decide (Int.ofNat (List.length s_l0) = Int.ofNat (List.length s_l0)) && true && true) <|
        again (s_l0) (s_l1) (x491) (t4)))
    (chk (decide (Int.ofNat (List.length s_l0) = Int.ofNat (List.length s_l0)) && true && true) <|
     kx 0 [.li (s_l0), .li (s_l1)])
def rset_Halve_1_L {α : Type} (kx : Nat → List Leaf → Option α) (kr : List Leaf → Option α) : Nat → List Int → List Int → Int → Int → Option α
  | 0, _, _, _, _ => none
  | n + 1, s_l0, s_l1, t5, t4 => rset_Halve_1_B  kx kr (rset_Halve_1_L kx kr n) s_l0 s_l1 t5 t4
def rset_Halve_1_F (L1 : ({β : Type} → (Nat → List Leaf → Option β) → (List Leaf → Option β) → Nat → List Int → List Int → Int → Int → Option β)) {α : Type} (n : Nat) (ls : List Leaf) (kx : Nat → List Leaf → Option α) (kr : List Leaf → Option α) : Option α := un_li ls fun s_l0 rr => un_li rr fun s_l1 rr => un_i rr fun t5 rr => un_i rr fun t4 rr => un_nil rr (L1 kx kr n s_l0 s_l1 t5 t4)
def rset_Halve_d (L1 : ({β : Type} → (Nat → List Leaf → Option β) → (List Leaf → Option β) → Nat → List Int → List Int → Int → Int → Option β)) (s_l0 : List Int) (s_l1 : List Int) : Option (List Leaf) :=
  chk (decide (Int.ofNat (List.length s_l0) = Int.ofNat (List.length s_l0)) && true && true) <|
  out (rset_Len s_l0 s_l1) fun r492 =>
  un_i r492 fun x493 r494 =>
  un_nil r494 <|
  chk (decide (Int.ofNat (List.length s_l0) = Int.ofNat (List.length s_l0)) && true && true) <|
  L1
    (fun i495 r496 =>
     br (Nat.beq 0 i495)
       (un_li r496 fun x497 r498 =>
        un_li r498 fun x499 r500 =>
        un_nil r500 <|
        chk (decide (Int.ofNat (List.length x497) = Int.ofNat (List.length x497)) && true && true) <|
        some [.li (x497), .li (x499)])
       (none))
    (fun r501 =>
     un_nil r501 <|
     none)
    top (s_l0) (s_l1) (0) (x493)
def rset_Halve (s_l0 : List Int) (s_l1 : List Int) : Option (List Leaf) := rset_Halve_d @rset_Halve_1_L s_l0 s_l1
def rset_Update_1 (now : Int) (r : Int) (p_at : Int) (p_x : Int) : Option (List Leaf) :=
  one (mulI .i64 2 r) fun x502 =>
  one (subI .i64 now x502) fun x503 =>
  some [.i (now), .i (r), .b (decide (p_at < x503))]
def set_IndexFunc_2_B  {α : Type} (kx : Nat → List Leaf → Option α) (kr : List Leaf → Option α) (again : List Int → List Int → Int → Int → Int → Int → Option α) (s0 : List Int) (s1 : List Int) (now : Int) (r : Int) (t8 : Int) (t7 : Int) : Option α :=
  br (decide (t8 < t7))
    (chk (decide ((0 : Int) ≤ t8 ∧ t8 < Int.ofNat (List.length s0))) <|
     chk (decide ((0 : Int) ≤ t8 ∧ t8 < Int.ofNat (List.length s0))) <|
     out (rset_Update_1 now r (List.getD s0 (Int.toNat t8) 0) (List.getD s1 (Int.toNat t8) 0)) fun r513 =>
     un_i r513 fun x514 r515 =>
     un_i r515 fun x516 r517 =>
     un_b r517 fun x518 r519 =>
     un_nil r519 <|
     br (x518)
       (kr [.li (s0), .li (s1), .i (x514), .i (x516), .i (t8)])
       (one (addI .i64 t8 1) fun x520 =>
        chk (decide (Int.ofNat (List.length s0) = Int.ofNat (List.length s0)) && true) <|
        again (s0) (s1) (x514) (x516) (x520) (t7)))
    (kx 0 [.li (s0), .li (s1), .i (now), .i (r)])
def set_IndexFunc_2_L {α : Type} (kx : Nat → List Leaf → Option α) (kr : List Leaf → Option α) : Nat → List Int → List Int → Int → Int → Int → Int → Option α
  | 0, _, _, _, _, _, _ => none
  | n + 1, s0, s1, now, r, t8, t7 => set_IndexFunc_2_B  kx kr (set_IndexFunc_2_L kx kr n) s0 s1 now r t8 t7
def set_IndexFunc_2_F (L2 : ({β : Type} → (Nat → List Leaf → Option β) → (List Leaf → Option β) → Nat → List Int → List Int → Int → Int → Int → Int → Option β)) {α : Type} (n : Nat) (ls : List Leaf) (kx : Nat → List Leaf → Option α) (kr : List Leaf → Option α) : Option α := un_li ls fun s0 rr => un_li rr fun s1 rr => un_i rr fun now rr => un_i rr fun r rr => un_i rr fun t8 rr => un_i rr fun t7 rr => un_nil rr (L2 kx kr n s0 s1 now r t8 t7)
def set_IndexFunc_d (L2 : ({β : Type} → (Nat → List Leaf → Option β) → (List Leaf → Option β) → Nat → List Int → List Int → Int → Int → Int → Int → Option β)) (s0 : List Int) (s1 : List Int) (now : Int) (r : Int) : Option (List Leaf) :=
  one (Int.ofNat (List.length s0)) fun x521 =>
  chk (decide (Int.ofNat (List.length s0) = Int.ofNat (List.length s0)) && true) <|
  L2
    (fun i522 r523 =>
     br (Nat.beq 0 i522)
       (un_li r523 fun x524 r525 =>
        un_li r525 fun x526 r527 =>
        un_i r527 fun x528 r529 =>
        un_i r529 fun x530 r531 =>
        un_nil r531 <|
        some [.i (x528), .i (x530), .i (-1)])
       (none))
    (fun r532 =>
     un_li r532 fun x533 r534 =>
     un_li r534 fun x535 r536 =>
     un_i r536 fun x537 r538 =>
     un_i r538 fun x539 r540 =>
     un_i r540 fun x541 r542 =>
     un_nil r542 <|
     some [.i (x537), .i (x539), .i (x541)])
    top (s0) (s1) (now) (r) (0) (x521)
def set_IndexFunc (s0 : List Int) (s1 : List Int) (now : Int) (r : Int) : Option (List Leaf) := set_IndexFunc_d @set_IndexFunc_2_L s0 s1 now r
def set_DeleteFunc_5_B  {α : Type} (kx : Nat → List Leaf → Option α) (kr : List Leaf → Option α) (again : List Int → List Int → Int → Int → Int → Int → Option α) (s0 : List Int) (s1 : List Int) (now : Int) (r : Int) (j : Int) (i : Int) : Option α :=
  one (Int.ofNat (List.length s0)) fun x562 =>
  br (decide (j < x562))
    (chk (decide ((0 : Int) ≤ j ∧ j < Int.ofNat (List.length s0))) <|
     chk (decide ((0 : Int) ≤ j ∧ j < Int.ofNat (List.length s0))) <|
     out (rset_Update_1 now r (List.getD s0 (Int.toNat j) 0) (List.getD s1 (Int.toNat j) 0)) fun r563 =>
     un_i r563 fun x564 r565 =>
     un_i r565 fun x566 r567 =>
     un_b r567 fun x568 r569 =>
     un_nil r569 <|
     br (!x568)
       (chk (decide ((0 : Int) ≤ i ∧ i < Int.ofNat (List.length s0))) <|
        chk (decide ((0 : Int) ≤ i ∧ i < Int.ofNat (List.length s0))) <|
        one (addI .i64 i 1) fun x570 =>
        one (addI .i64 j 1) fun x571 =>
        chk (decide (Int.ofNat (List.length s0) = Int.ofNat (List.length (List.set s0 (Int.toNat i) (List.getD s0 (Int.toNat j) (0 : Int))))) && true) <|
        again (List.set s0 (Int.toNat i) (List.getD s0 (Int.toNat j) 0)) (List.set s1 (Int.toNat i) (List.getD s1 (Int.toNat j) 0)) (x564) (x566) (x571) (x570))
       (one (addI .i64 j 1) fun x572 =>
        chk (decide (Int.ofNat (List.length s0) = Int.ofNat (List.length s0)) && true) <|
        again (s0) (s1) (x564) (x566) (x572) (i)))
    (chk (decide (Int.ofNat (List.length s0) = Int.ofNat (List.length s0)) && true) <|
     kx 0 [.li (s0), .li (s1), .i (now), .i (r), .i (i)])
def set_DeleteFunc_5_L {α : Type} (kx : Nat → List Leaf → Option α) (kr : List Leaf → Option α) : Nat → List Int → List Int → Int → Int → Int → Int → Option α
  | 0, _, _, _, _, _, _ => none
  | n + 1, s0, s1, now, r, j, i => set_DeleteFunc_5_B  kx kr (set_DeleteFunc_5_L kx kr n) s0 s1 now r j i
def set_DeleteFunc_5_F (L5 : ({β : Type} → (Nat → List Leaf → Option β) → (List Leaf → Option β) → Nat → List Int → List Int → Int → Int → Int → Int → Option β)) {α : Type} (n : Nat) (ls : List Leaf) (kx : Nat → List Leaf → Option α) (kr : List Leaf → Option α) : Option α := un_li ls fun s0 rr => un_li rr fun s1 rr => un_i rr fun now rr => un_i rr fun r rr => un_i rr fun j rr => un_i rr fun i rr => un_nil rr (L5 kx kr n s0 s1 now r j i)
def set_DeleteFunc_d (L5 : ({β : Type} → (Nat → List Leaf → Option β) → (List Leaf → Option β) → Nat → List Int → List Int → Int → Int → Int → Int → Option β)) (s0 : List Int) (s1 : List Int) (now : Int) (r : Int) : Option (List Leaf) :=
  chk (decide (Int.ofNat (List.length s0) = Int.ofNat (List.length s0)) && true) <|
  out (set_IndexFunc s0 s1 now r) fun r573 =>
  un_i r573 fun x574 r575 =>
  un_i r575 fun x576 r577 =>
  un_i r577 fun x578 r579 =>
  un_nil r579 <|
  br (x578 == -1)
    (chk (decide (Int.ofNat (nat_lit 0) + Int.ofNat (List.length s0) ≤ Int.ofNat (List.length s0))) <|
     chk (decide (Int.ofNat (List.length s0) = Int.ofNat (List.length (List.take (Int.toNat (Int.ofNat (List.length s0))) (List.drop (Int.toNat (Int.ofNat (nat_lit 0))) s0)))) && true) <|
     some [.li (List.take (Int.toNat (Int.ofNat (List.length s0))) (List.drop (Int.toNat (Int.ofNat 0)) s0)), .li (List.take (Int.toNat (Int.ofNat (List.length s0))) (List.drop (Int.toNat (Int.ofNat 0)) s1)), .i (x574), .i (x576)])
    (one (addI .i64 x578 1) fun x580 =>
     chk (decide (Int.ofNat (List.length s0) = Int.ofNat (List.length s0)) && true) <|
     L5
       (fun i581 r582 =>
        br (Nat.beq 0 i581)
          (un_li r582 fun x583 r584 =>
           un_li r584 fun x585 r586 =>
           un_i r586 fun x587 r588 =>
           un_i r588 fun x589 r590 =>
           un_i r590 fun x591 r592 =>
           un_nil r592 <|
           chk (condSl (rlOf [[Col.int .i64 x583, Col.int .u64 x585], [], []] (0 : Nat)) (Option.some x591) Option.none) <|
           chk (rowIn (Option.some (offAdd Option.none x591)) (lenSl (rlOf [[Col.int .i64 x583, Col.int .u64 x585], [], []] (0 : Nat)) (Option.some x591) Option.none) (Int.ofNat (List.length x583))) <|
           chk (condSl (rlOf [[Col.int .i64 x583, Col.int .u64 x585], [], []] (0 : Nat)) Option.none (Option.some x591)) <|
           chk (decide (Int.ofNat (nat_lit 0) + x591 ≤ Int.ofNat (List.length x583))) <|
           chk (decide (x591 = Int.ofNat (List.length (List.take (Int.toNat x591) (List.drop (Int.toNat (Int.ofNat (nat_lit 0))) (wipeL (Int.toNat (Option.getD (cutOff (isRo [AObj.row (132 : Go.TypeId) (2 : Nat) (colsN [Col.int .i64 x583, Col.int .u64 x585]) [Col.int .i64 x583, Col.int .u64 x585], AObj.cells (2 : Go.TypeId) [A.raw (Go.Value.int .i64 x587)], AObj.cells (2 : Go.TypeId) [A.raw (Go.Value.int .i64 x589)]] (0 : Nat)) Option.none (Option.some x591) Option.none) (0 : Int))) (Int.toNat (lenSl (rlOf [[Col.int .i64 x583, Col.int .u64 x585], [], []] (0 : Nat)) (Option.some x591) Option.none)) x583 (0 : Int)))))) && true) <|
           some [.li (List.take (Int.toNat x591) (List.drop (Int.toNat (Int.ofNat 0)) (wipeL (Int.toNat (Option.getD (cutOff (isRo [AObj.row 132 2 (colsN [Col.int .i64 x583, Col.int .u64 x585]) [Col.int .i64 x583, Col.int .u64 x585], AObj.cells 2 [A.raw (Go.Value.int .i64 x587)], AObj.cells 2 [A.raw (Go.Value.int .i64 x589)]] 0) Option.none (Option.some x591) Option.none) 0)) (Int.toNat (lenSl (rlOf [[Col.int .i64 x583, Col.int .u64 x585], [], []] 0) (Option.some x591) Option.none)) x583 0))), .li (List.take (Int.toNat x591) (List.drop (Int.toNat (Int.ofNat 0)) (wipeL (Int.toNat (Option.getD (cutOff (isRo [AObj.row 132 2 (colsN [Col.int .i64 x583, Col.int .u64 x585]) [Col.int .i64 x583, Col.int .u64 x585], AObj.cells 2 [A.raw (Go.Value.int .i64 x587)], AObj.cells 2 [A.raw (Go.Value.int .i64 x589)]] 0) Option.none (Option.some x591) Option.none) 0)) (Int.toNat (lenSl (rlOf [[Col.int .i64 x583, Col.int .u64 x585], [], []] 0) (Option.some x591) Option.none)) x585 0))), .i (x587), .i (x589)])
          (none))
       (fun r593 =>
        un_nil r593 <|
        none)
       top (s0) (s1) (x574) (x576) (x580) (x578))
def set_DeleteFunc (s0 : List Int) (s1 : List Int) (now : Int) (r : Int) : Option (List Leaf) := set_DeleteFunc_d @set_DeleteFunc_5_L s0 s1 now r
def rset_Update (s_l0 : List Int) (s_l1 : List Int) (x : Int) (now : Int) (r : Int) : Option (List Leaf) :=
  one (maxI now 0) fun x594 =>
  one (minI x594 4611686018427387904) fun x595 =>
  one (maxI r 0) fun x596 =>
  one (minI x596 1099511627776) fun x597 =>
  chk (decide (Int.ofNat (List.length s_l0) = Int.ofNat (List.length s_l0)) && true && decide ((Int.ofNat (List.length s_l0) + (↑(1 : Nat) : Int)) * (↑(nat_lit 16) : Int) ≤ (140737488355328 : Int) ∧ Int.ofNat (List.length s_l0) + (↑(1 : Nat) : Int) ≤ (4611686018427387904 : Int))) <|
  chk (decide (Int.ofNat (List.length s_l0) = Int.ofNat (List.length s_l0)) && true && decide ((Int.ofNat (List.length s_l0) + (↑(1 : Nat) : Int)) * (↑(nat_lit 16) : Int) ≤ (140737488355328 : Int) ∧ Int.ofNat (List.length s_l0) + (↑(1 : Nat) : Int) ≤ (4611686018427387904 : Int))) <|
  chk (decide (Int.ofNat (List.length s_l0) + (↑(1 : Nat) : Int) = Int.ofNat (List.length (s_l0 ++ [x595]))) && true) <|
  out (set_DeleteFunc (s_l0 ++ [x595]) (s_l1 ++ [x]) x595 x597) fun r598 =>
  un_li r598 fun x599 r600 =>
  un_li r600 fun x601 r602 =>
  un_i r602 fun x603 r604 =>
  un_i r604 fun x605 r606 =>
  un_nil r606 <|
  one (Int.ofNat (List.length x599)) fun x607 =>
  one (subI .i64 x607 8) fun x608 =>
  one (maxI x608 0) fun x609 =>
  chk (condSl (rlOf [[], [], [], [Col.int .i64 x599, Col.int .u64 x601]] (3 : Nat)) (Option.some x609) Option.none) <|
  chk (decide (x609 + lenSl (rlOf [[], [], [], [Col.int .i64 x599, Col.int .u64 x601]] (3 : Nat)) (Option.some x609) Option.none ≤ Int.ofNat (List.length x599))) <|
  chk (decide (lenSl (rlOf [[], [], [], [Col.int .i64 x599, Col.int .u64 x601]] (3 : Nat)) (Option.some x609) Option.none = Int.ofNat (List.length (List.take (Int.toNat (lenSl (rlOf [[], [], [], [Col.int .i64 x599, Col.int .u64 x601]] (3 : Nat)) (Option.some x609) Option.none)) (List.drop (Int.toNat x609) x599)))) && true && true) <|
  some [.li (List.take (Int.toNat (lenSl (rlOf [[], [], [], [Col.int .i64 x599, Col.int .u64 x601]] 3) (Option.some x609) Option.none)) (List.drop (Int.toNat x609) x599)), .li (List.take (Int.toNat (lenSl (rlOf [[], [], [], [Col.int .i64 x599, Col.int .u64 x601]] 3) (Option.some x609) Option.none)) (List.drop (Int.toNat x609) x601))]
end Go.Sx.T

