import Derived.Test.YthcddikjnpbnjaaGreatDoorYFixSpec
set_option linter.all false
namespace Go.Sx.T
open Go Go.Sx
def ival_Weight (i : Int) : Option (List Leaf) :=
  br (decide (i < 0))
    (some [.i (0)])
    (one ((↑8 : Int)) fun x433 =>
     br (decide (i ≥ x433))
       (some [.i (0)])
       (chk (decide (0 ≤ i ∧ i < (↑8 : Int))) <|
        chk (decide (0 ≤ i ∧ i < (↑8 : Int))) <|
        some [.i (List.getD [5, 5, 5, 5, 4, 3, 2, 1] (Int.toNat i) 0)]))
def ival_sums_4_B  {α : Type} (kx : Nat → List Leaf → Option α) (kr : List Leaf → Option α) (again : List Int → Int → Int → Int → Int → Int → Int → Int → Int → Int → Option α) (closed : List Int) (t20 : Int) (a : Int) (closed_o : Int) (closed_n : Int) (b : Int) (w : Int) (t18_o : Int) (t18_n : Int) (t19 : Int) : Option α :=
  br (decide (t20 < t19))
    (chk (decide (0 ≤ t20 ∧ t20 < t18_n)) <|
     chk (decide ((0 : Int) ≤ offAdd (Option.some t18_o) t20 ∧ offAdd (Option.some t18_o) t20 < Int.ofNat (List.length closed))) <|
     out (ival_Weight t20) fun r468 =>
     un_i r468 fun x469 r470 =>
     un_nil r470 <|
     one (addI .u64 w x469) fun x471 =>
     out (ival_Weight t20) fun r472 =>
     un_i r472 fun x473 r474 =>
     un_nil r474 <|
     out (fix_Mul (List.getD closed (Int.toNat (offAdd (Option.some t18_o) t20)) 0) x473) fun r475 =>
     un_i r475 fun x476 r477 =>
     un_nil r477 <|
     out (fix_Add b x476) fun r478 =>
     un_i r478 fun x479 r480 =>
     un_nil r480 <|
     one (subI .i64 closed_n 1) fun x481 =>
     br (decide (t20 < x481))
       (one (addI .i64 t20 1) fun x482 =>
        out (ival_Weight x482) fun r483 =>
        un_i r483 fun x484 r485 =>
        un_nil r485 <|
        out (fix_Mul (List.getD closed (Int.toNat (offAdd (Option.some t18_o) t20)) 0) x484) fun r486 =>
        un_i r486 fun x487 r488 =>
        un_nil r488 <|
        out (fix_Add a x487) fun r489 =>
        un_i r489 fun x490 r491 =>
        un_nil r491 <|
        one (addI .i64 t20 1) fun x492 =>
        again (closed) (x492) (x490) (closed_o) (closed_n) (x479) (x471) (t18_o) (t18_n) (t19))
       (one (addI .i64 t20 1) fun x493 =>
        again (closed) (x493) (a) (closed_o) (closed_n) (x479) (x471) (t18_o) (t18_n) (t19)))
    (kx 0 [.li (closed), .i (b), .i (a), .i (w)])
def ival_sums_4_L {α : Type} (kx : Nat → List Leaf → Option α) (kr : List Leaf → Option α) : Nat → List Int → Int → Int → Int → Int → Int → Int → Int → Int → Int → Option α
  | 0, _, _, _, _, _, _, _, _, _, _ => none
  | n + 1, closed, t20, a, closed_o, closed_n, b, w, t18_o, t18_n, t19 => ival_sums_4_B  kx kr (ival_sums_4_L kx kr n) closed t20 a closed_o closed_n b w t18_o t18_n t19
def ival_sums_4_F (L4 : ({β : Type} → (Nat → List Leaf → Option β) → (List Leaf → Option β) → Nat → List Int → Int → Int → Int → Int → Int → Int → Int → Int → Int → Option β)) {α : Type} (n : Nat) (ls : List Leaf) (kx : Nat → List Leaf → Option α) (kr : List Leaf → Option α) : Option α := un_li ls fun closed rr => un_i rr fun t20 rr => un_i rr fun a rr => un_i rr fun closed_o rr => un_i rr fun closed_n rr => un_i rr fun b rr => un_i rr fun w rr => un_i rr fun t18_o rr => un_i rr fun t18_n rr => un_i rr fun t19 rr => un_nil rr (L4 kx kr n closed t20 a closed_o closed_n b w t18_o t18_n t19)
def ival_sums_d (L4 : ({β : Type} → (Nat → List Leaf → Option β) → (List Leaf → Option β) → Nat → List Int → Int → Int → Int → Int → Int → Int → Int → Int → Int → Option β)) (closed : List Int) (open2 : Int) : Option (List Leaf) :=
  one (Int.ofNat (List.length closed)) fun x494 =>
  one (minI x494 8) fun x495 =>
  chk (condSl (rlOf [[Col.int .u64 closed]] (0 : Nat)) Option.none (Option.some x495)) <|
  out (ival_Weight 0) fun r496 =>
  un_i r496 fun x497 r498 =>
  un_nil r498 <|
  out (fix_Mul open2 x497) fun r499 =>
  un_i r499 fun x500 r501 =>
  un_nil r501 <|
  L4
    (fun i502 r503 =>
     br (Nat.beq 0 i502)
       (un_li r503 fun x504 r505 =>
        un_i r505 fun x506 r507 =>
        un_i r507 fun x508 r509 =>
        un_i r509 fun x510 r511 =>
        un_nil r511 <|
        one (maxI x508 x506) fun x512 =>
        some [.i (x510), .i (x512)])
       (none))
    (fun r513 =>
     un_nil r513 <|
     none)
    top (closed) (0) (x500) (Int.ofNat 0) (x495) (0) (0) (Int.ofNat 0) (x495) (x495)
def ival_sums (closed : List Int) (open2 : Int) : Option (List Leaf) := ival_sums_d @ival_sums_4_L closed open2
def ival_Rate (closed : List Int) (open2 : Int) : Option (List Leaf) :=
  chk (decide (Int.ofNat (List.length closed) = Int.ofNat (List.length closed)) && true) <|
  out (ival_sums closed open2) fun r514 =>
  un_i r514 fun x515 r516 =>
  un_i r516 fun x517 r518 =>
  un_nil r518 <|
  br (x515 == 0)
    (some [.i (0)])
    (out (fix_MulDiv x515 4294967296 x517) fun r519 =>
     un_i r519 fun x520 r521 =>
     un_nil r521 <|
     one (minI x520 4294967296) fun x522 =>
     some [.i (x522)])
end Go.Sx.T

