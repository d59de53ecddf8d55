import Derived.Test.YthcddikjnpbnjaaGreatDoorYFixSpec
set_option linter.all false
namespace Go.Sx.T
open Go Go.Sx
def ival_Weight (i : Int) : Option (List Leaf) :=
  br (decide (i < 0))
    (some [.i (0)])
    (one ((↑8 : Int)) fun x453 =>
     br (decide (i ≥ x453))
       (some [.i (0)])
       (chk (decide (0 ≤ i ∧ i < (↑8 : Int))) <|
        chk (decide (0 ≤ i ∧ i < (↑8 : Int))) <|
        some [.i (List.getD [5, 5, 5, 5, 4, 3, 2, 1] (Int.toNat i) 0)]))
def ival_sums_4_B  {α : Type} (kx : Nat → List Leaf → Option α) (kr : List Leaf → Option α) (again : List Int → Int → Int → Int → Int → Int → Int → Int → Int → Int → Option α) (closed : List Int) (t20 : Int) (a : Int) (closed_o : Int) (closed_n : Int) (b : Int) (w : Int) (t18_o : Int) (t18_n : Int) (t19 : Int) : Option α :=
  br (decide (t20 < t19))
    (chk (decide (0 ≤ t20 ∧ t20 < t18_n)) <|
     chk (decide ((0 : Int) ≤ offAdd (Option.some t18_o) t20 ∧ offAdd (Option.some t18_o) t20 < Int.ofNat (List.length closed))) <|
     out (ival_Weight t20) fun r490 =>
     un_i r490 fun x491 r492 =>
     un_nil r492 <|
     one (addI .u64 w x491) fun x493 =>
     out (ival_Weight t20) fun r494 =>
     un_i r494 fun x495 r496 =>
     un_nil r496 <|
     out (fix_Mul (List.getD closed (Int.toNat (offAdd (Option.some t18_o) t20)) 0) x495) fun r497 =>
     un_i r497 fun x498 r499 =>
     un_nil r499 <|
     out (fix_Add b x498) fun r500 =>
     un_i r500 fun x501 r502 =>
     un_nil r502 <|
     one (closed_n) fun x503 =>
     one (subI .i64 x503 1) fun x504 =>
     br (decide (t20 < x504))
       (one (addI .i64 t20 1) fun x505 =>
        out (ival_Weight x505) fun r506 =>
        un_i r506 fun x507 r508 =>
        un_nil r508 <|
        out (fix_Mul (List.getD closed (Int.toNat (offAdd (Option.some t18_o) t20)) 0) x507) fun r509 =>
        un_i r509 fun x510 r511 =>
        un_nil r511 <|
        out (fix_Add a x510) fun r512 =>
        un_i r512 fun x513 r514 =>
        un_nil r514 <|
        one (addI .i64 t20 1) fun x515 =>
        again (closed) (x515) (x513) (closed_o) (closed_n) (x501) (x493) (t18_o) (t18_n) (t19))
       (one (addI .i64 t20 1) fun x516 =>
        again (closed) (x516) (a) (closed_o) (closed_n) (x501) (x493) (t18_o) (t18_n) (t19)))
    (kx 0 [.li (closed), .i (b), .i (a), .i (w)])
def ival_sums_4_L {α : Type} (kx : Nat → List Leaf → Option α) (kr : List Leaf → Option α) : Nat → List Int → Int → Int → Int → Int → Int → Int → Int → Int → Int → Option α
  | 0, _, _, _, _, _, _, _, _, _, _ => none
  | n + 1, closed, t20, a, closed_o, closed_n, b, w, t18_o, t18_n, t19 => ival_sums_4_B  kx kr (ival_sums_4_L kx kr n) closed t20 a closed_o closed_n b w t18_o t18_n t19
def ival_sums_4_F (L4 : ({β : Type} → (Nat → List Leaf → Option β) → (List Leaf → Option β) → Nat → List Int → Int → Int → Int → Int → Int → Int → Int → Int → Int → Option β)) {α : Type} (n : Nat) (ls : List Leaf) (kx : Nat → List Leaf → Option α) (kr : List Leaf → Option α) : Option α := un_li ls fun closed rr => un_i rr fun t20 rr => un_i rr fun a rr => un_i rr fun closed_o rr => un_i rr fun closed_n rr => un_i rr fun b rr => un_i rr fun w rr => un_i rr fun t18_o rr => un_i rr fun t18_n rr => un_i rr fun t19 rr => un_nil rr (L4 kx kr n closed t20 a closed_o closed_n b w t18_o t18_n t19)
def ival_sums_d (L4 : ({β : Type} → (Nat → List Leaf → Option β) → (List Leaf → Option β) → Nat → List Int → Int → Int → Int → Int → Int → Int → Int → Int → Int → Option β)) (closed : List Int) (open2 : Int) : Option (List Leaf) :=
  one (Int.ofNat (List.length closed)) fun x517 =>
  one (minI x517 8) fun x518 =>
  chk (condSl (rlOf [[Col.int .u64 closed]] (0 : Nat)) Option.none (Option.some x518)) <|
  out (ival_Weight 0) fun r519 =>
  un_i r519 fun x520 r521 =>
  un_nil r521 <|
  out (fix_Mul open2 x520) fun r522 =>
  un_i r522 fun x523 r524 =>
  un_nil r524 <|
  one (x518) fun x525 =>
  L4
    (fun i526 r527 =>
     br (Nat.beq 0 i526)
       (un_li r527 fun x528 r529 =>
        un_i r529 fun x530 r531 =>
        un_i r531 fun x532 r533 =>
        un_i r533 fun x534 r535 =>
        un_nil r535 <|
        one (maxI x532 x530) fun x536 =>
        some [.i (x534), .i (x536)])
       (none))
    (fun r537 =>
     un_nil r537 <|
     none)
    top (closed) (0) (x523) (Int.ofNat 0) (x518) (0) (0) (Int.ofNat 0) (x518) (x525)
def ival_sums (closed : List Int) (open2 : Int) : Option (List Leaf) := ival_sums_d @ival_sums_4_L closed open2
def ival_Rate (closed : List Int) (open2 : Int) : Option (List Leaf) :=
  chk (decide (Int.ofNat (List.length closed) = Int.ofNat (List.length closed)) && true) <|
  out (ival_sums closed open2) fun r538 =>
  un_i r538 fun x539 r540 =>
  un_i r540 fun x541 r542 =>
  un_nil r542 <|
  one (x539) fun x543 =>
  one (x541) fun x544 =>
  br (x543 == 0)
    (some [.i (0)])
    (out (fix_MulDiv x543 4294967296 x544) fun r545 =>
     un_i r545 fun x546 r547 =>
     un_nil r547 <|
     one (minI x546 4294967296) fun x548 =>
     some [.i (x548)])
end Go.Sx.T

