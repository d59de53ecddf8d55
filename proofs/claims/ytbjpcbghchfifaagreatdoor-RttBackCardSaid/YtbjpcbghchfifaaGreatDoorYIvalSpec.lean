import Derived.Test.YtbjpcbghchfifaaGreatDoorYFixSpec
set_option linter.all false
namespace Go.Sx.T
open Go Go.Sx
def ival_Weight (i : Int) : Option (List Leaf) :=
  br (decide (i < 0))
    (some [.i (0)])
    (one (↑8) fun x535 =>
     br (decide (i ≥ x535))
       (some [.i (0)])
       (chk (decide (0 ≤ i ∧ i < ↑8)) <|
        chk (decide (0 ≤ i ∧ i < ↑8)) <|
        some [.i (List.getD [5, 5, 5, 5, 4, 3, 2, 1] (Int.toNat i) 0)]))
def ival_sums_4_B  {α : Type} (kx : Nat → List Leaf → Option α) (kr : List Leaf → Option α) (again : List Int → Int → Int → Int → Int → Int → Int → Int → Int → Int → Option α) (closed : List Int) (t20 : Int) (a : Int) (closed_o : Int) (closed_n : Int) (b : Int) (w : Int) (t18_o : Int) (t18_n : Int) (t19 : Int) : Option α :=
  br (decide (t20 < t19))
    (chk (decide (0 ≤ t20 ∧ t20 < t18_n)) <|
     chk (decide (0 ≤ offAdd (Option.some t18_o) t20 ∧ offAdd (Option.some t18_o) t20 < Int.ofNat (List.length closed))) <|
     out (ival_Weight t20) fun r570 =>
     un_i r570 fun x571 r572 =>
     un_nil r572 <|
     one (addI .u64 w x571) fun x573 =>
     out (ival_Weight t20) fun r574 =>
     un_i r574 fun x575 r576 =>
     un_nil r576 <|
     out (fix_Mul (List.getD closed (Int.toNat (offAdd (Option.some t18_o) t20)) 0) x575) fun r577 =>
     un_i r577 fun x578 r579 =>
     un_nil r579 <|
     out (fix_Add b x578) fun r580 =>
     un_i r580 fun x581 r582 =>
     un_nil r582 <|
     one (subI .i64 closed_n 1) fun x583 =>
     br (decide (t20 < x583))
       (one (addI .i64 t20 1) fun x584 =>
        out (ival_Weight x584) fun r585 =>
        un_i r585 fun x586 r587 =>
        un_nil r587 <|
        out (fix_Mul (List.getD closed (Int.toNat (offAdd (Option.some t18_o) t20)) 0) x586) fun r588 =>
        un_i r588 fun x589 r590 =>
        un_nil r590 <|
        out (fix_Add a x589) fun r591 =>
        un_i r591 fun x592 r593 =>
        un_nil r593 <|
        one (addI .i64 t20 1) fun x594 =>
        again (closed) (x594) (x592) (closed_o) (closed_n) (x581) (x573) (t18_o) (t18_n) (t19))
       (one (addI .i64 t20 1) fun x595 =>
        again (closed) (x595) (a) (closed_o) (closed_n) (x581) (x573) (t18_o) (t18_n) (t19)))
    (kx 0 [.li (closed), .i (b), .i (a), .i (w)])
def ival_sums_4_L {α : Type} (kx : Nat → List Leaf → Option α) (kr : List Leaf → Option α) : Nat → List Int → Int → Int → Int → Int → Int → Int → Int → Int → Int → Option α
  | 0, _, _, _, _, _, _, _, _, _, _ => none
  | n + 1, closed, t20, a, closed_o, closed_n, b, w, t18_o, t18_n, t19 => ival_sums_4_B  kx kr (ival_sums_4_L kx kr n) closed t20 a closed_o closed_n b w t18_o t18_n t19
def ival_sums_4_F (L4 : ({β : Type} → (Nat → List Leaf → Option β) → (List Leaf → Option β) → Nat → List Int → Int → Int → Int → Int → Int → Int → Int → Int → Int → Option β)) {α : Type} (n : Nat) (ls : List Leaf) (kx : Nat → List Leaf → Option α) (kr : List Leaf → Option α) : Option α := un_li ls fun closed rr => un_i rr fun t20 rr => un_i rr fun a rr => un_i rr fun closed_o rr => un_i rr fun closed_n rr => un_i rr fun b rr => un_i rr fun w rr => un_i rr fun t18_o rr => un_i rr fun t18_n rr => un_i rr fun t19 rr => un_nil rr (L4 kx kr n closed t20 a closed_o closed_n b w t18_o t18_n t19)
def ival_sums_d (L4 : ({β : Type} → (Nat → List Leaf → Option β) → (List Leaf → Option β) → Nat → List Int → Int → Int → Int → Int → Int → Int → Int → Int → Int → Option β)) (closed : List Int) (open2 : Int) : Option (List Leaf) :=
  one (Int.ofNat (List.length closed)) fun x596 =>
  one (minI x596 8) fun x597 =>
  chk (condSl (rlOf [[Col.int .u64 closed]] 0) Option.none (Option.some x597)) <|
  out (ival_Weight 0) fun r598 =>
  un_i r598 fun x599 r600 =>
  un_nil r600 <|
  out (fix_Mul open2 x599) fun r601 =>
  un_i r601 fun x602 r603 =>
  un_nil r603 <|
  L4
    (fun i604 r605 =>
     br (Nat.beq 0 i604)
       (un_li r605 fun x606 r607 =>
        un_i r607 fun x608 r609 =>
        un_i r609 fun x610 r611 =>
        un_i r611 fun x612 r613 =>
        un_nil r613 <|
        one (maxI x610 x608) fun x614 =>
        some [.i (x612), .i (x614)])
       (none))
    (fun r615 =>
     un_nil r615 <|
     none)
    top (closed) (0) (x602) (Int.ofNat 0) (x597) (0) (0) (Int.ofNat 0) (x597) (x597)
def ival_sums (closed : List Int) (open2 : Int) : Option (List Leaf) := ival_sums_d @ival_sums_4_L closed open2
def ival_Mean (closed : List Int) (open2 : Int) : Option (List Leaf) :=
  chk (decide (Int.ofNat (List.length closed) = Int.ofNat (List.length closed)) && true) <|
  out (ival_sums closed open2) fun r616 =>
  un_i r616 fun x617 r618 =>
  un_i r618 fun x619 r620 =>
  un_nil r620 <|
  br (x617 == 0)
    (some [.i (0)])
    (chk (decide (x617 ≠ 0)) <|
     one (quoI .u64 x619 x617) fun x621 =>
     some [.i (x621)])
def ival_Rate (closed : List Int) (open2 : Int) : Option (List Leaf) :=
  chk (decide (Int.ofNat (List.length closed) = Int.ofNat (List.length closed)) && true) <|
  out (ival_sums closed open2) fun r622 =>
  un_i r622 fun x623 r624 =>
  un_i r624 fun x625 r626 =>
  un_nil r626 <|
  br (x623 == 0)
    (some [.i (0)])
    (out (fix_MulDiv x623 4294967296 x625) fun r627 =>
     un_i r627 fun x628 r629 =>
     un_nil r629 <|
     one (minI x628 4294967296) fun x630 =>
     some [.i (x630)])
end Go.Sx.T

