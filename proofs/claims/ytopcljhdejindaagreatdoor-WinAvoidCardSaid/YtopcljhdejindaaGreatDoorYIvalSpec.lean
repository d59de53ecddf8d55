import Derived.Test.YtopcljhdejindaaGreatDoorYFixSpec
set_option linter.all false
namespace Go.Sx.T
open Go Go.Sx
def ival_Weight (i : Int) : Option (List Leaf) :=
  br (decide (i < 0))
    (some [.i (0)])
    (one (↑8) fun x498 =>
     br (decide (i ≥ x498))
       (some [.i (0)])
       (chk (decide (0 ≤ i ∧ i < ↑8)) <|
        chk (decide (0 ≤ i ∧ i < ↑8)) <|
        some [.i (List.getD [5, 5, 5, 5, 4, 3, 2, 1] (Int.toNat i) 0)]))
def ival_sums_4_B  {α : Type} (kx : Nat → List Leaf → Option α) (kr : List Leaf → Option α) (again : List Int → Int → Int → Int → Int → Int → Int → Int → Int → Int → Option α) (closed : List Int) (t20 : Int) (a : Int) (closed_o : Int) (closed_n : Int) (b : Int) (w : Int) (t18_o : Int) (t18_n : Int) (t19 : Int) : Option α :=
  br (decide (t20 < t19))
    (chk (decide (0 ≤ t20 ∧ t20 < t18_n)) <|
     chk (decide (0 ≤ offAdd (Option.some t18_o) t20 ∧ offAdd (Option.some t18_o) t20 < Int.ofNat (List.length closed))) <|
     out (ival_Weight t20) fun r533 =>
     un_i r533 fun x534 r535 =>
     un_nil r535 <|
     one (addI .u64 w x534) fun x536 =>
     out (ival_Weight t20) fun r537 =>
     un_i r537 fun x538 r539 =>
     un_nil r539 <|
     out (fix_Mul (List.getD closed (Int.toNat (offAdd (Option.some t18_o) t20)) 0) x538) fun r540 =>
     un_i r540 fun x541 r542 =>
     un_nil r542 <|
     out (fix_Add b x541) fun r543 =>
     un_i r543 fun x544 r545 =>
     un_nil r545 <|
     one (subI .i64 closed_n 1) fun x546 =>
     br (decide (t20 < x546))
       (one (addI .i64 t20 1) fun x547 =>
        out (ival_Weight x547) fun r548 =>
        un_i r548 fun x549 r550 =>
        un_nil r550 <|
        out (fix_Mul (List.getD closed (Int.toNat (offAdd (Option.some t18_o) t20)) 0) x549) fun r551 =>
        un_i r551 fun x552 r553 =>
        un_nil r553 <|
        out (fix_Add a x552) fun r554 =>
        un_i r554 fun x555 r556 =>
        un_nil r556 <|
        one (addI .i64 t20 1) fun x557 =>
        again (closed) (x557) (x555) (closed_o) (closed_n) (x544) (x536) (t18_o) (t18_n) (t19))
       (one (addI .i64 t20 1) fun x558 =>
        again (closed) (x558) (a) (closed_o) (closed_n) (x544) (x536) (t18_o) (t18_n) (t19)))
    (kx 0 [.li (closed), .i (b), .i (a), .i (w)])
def ival_sums_4_L {α : Type} (kx : Nat → List Leaf → Option α) (kr : List Leaf → Option α) : Nat → List Int → Int → Int → Int → Int → Int → Int → Int → Int → Int → Option α
  | 0, _, _, _, _, _, _, _, _, _, _ => none
  | n + 1, closed, t20, a, closed_o, closed_n, b, w, t18_o, t18_n, t19 => ival_sums_4_B  kx kr (ival_sums_4_L kx kr n) closed t20 a closed_o closed_n b w t18_o t18_n t19
def ival_sums_4_F (L4 : ({β : Type} → (Nat → List Leaf → Option β) → (List Leaf → Option β) → Nat → List Int → Int → Int → Int → Int → Int → Int → Int → Int → Int → Option β)) {α : Type} (n : Nat) (ls : List Leaf) (kx : Nat → List Leaf → Option α) (kr : List Leaf → Option α) : Option α := un_li ls fun closed rr => un_i rr fun t20 rr => un_i rr fun a rr => un_i rr fun closed_o rr => un_i rr fun closed_n rr => un_i rr fun b rr => un_i rr fun w rr => un_i rr fun t18_o rr => un_i rr fun t18_n rr => un_i rr fun t19 rr => un_nil rr (L4 kx kr n closed t20 a closed_o closed_n b w t18_o t18_n t19)
def ival_sums_d (L4 : ({β : Type} → (Nat → List Leaf → Option β) → (List Leaf → Option β) → Nat → List Int → Int → Int → Int → Int → Int → Int → Int → Int → Int → Option β)) (closed : List Int) (open2 : Int) : Option (List Leaf) :=
  one (Int.ofNat (List.length closed)) fun x559 =>
  one (minI x559 8) fun x560 =>
  chk (condSl (rlOf [[Col.int .u64 closed]] 0) Option.none (Option.some x560)) <|
  out (ival_Weight 0) fun r561 =>
  un_i r561 fun x562 r563 =>
  un_nil r563 <|
  out (fix_Mul open2 x562) fun r564 =>
  un_i r564 fun x565 r566 =>
  un_nil r566 <|
  L4
    (fun i567 r568 =>
     br (Nat.beq 0 i567)
       (un_li r568 fun x569 r570 =>
        un_i r570 fun x571 r572 =>
        un_i r572 fun x573 r574 =>
        un_i r574 fun x575 r576 =>
        un_nil r576 <|
        one (maxI x573 x571) fun x577 =>
        some [.i (x575), .i (x577)])
       (none))
    (fun r578 =>
     un_nil r578 <|
     none)
    top (closed) (0) (x565) (Int.ofNat 0) (x560) (0) (0) (Int.ofNat 0) (x560) (x560)
def ival_sums (closed : List Int) (open2 : Int) : Option (List Leaf) := ival_sums_d @ival_sums_4_L closed open2
def ival_Mean (closed : List Int) (open2 : Int) : Option (List Leaf) :=
  chk (decide (Int.ofNat (List.length closed) = Int.ofNat (List.length closed)) && true) <|
  out (ival_sums closed open2) fun r579 =>
  un_i r579 fun x580 r581 =>
  un_i r581 fun x582 r583 =>
  un_nil r583 <|
  br (x580 == 0)
    (some [.i (0)])
    (chk (decide (x580 ≠ 0)) <|
     one (quoI .u64 x582 x580) fun x584 =>
     some [.i (x584)])
def ival_Rate (closed : List Int) (open2 : Int) : Option (List Leaf) :=
  chk (decide (Int.ofNat (List.length closed) = Int.ofNat (List.length closed)) && true) <|
  out (ival_sums closed open2) fun r585 =>
  un_i r585 fun x586 r587 =>
  un_i r587 fun x588 r589 =>
  un_nil r589 <|
  br (x586 == 0)
    (some [.i (0)])
    (out (fix_MulDiv x586 4294967296 x588) fun r590 =>
     un_i r590 fun x591 r592 =>
     un_nil r592 <|
     one (minI x591 4294967296) fun x593 =>
     some [.i (x593)])
end Go.Sx.T

