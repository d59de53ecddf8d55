/- What the functions compute, by program. -/
import Derived.Test.YtbjpcbghchfifaaGreatDoorYFixSpec
set_option linter.all false
namespace Go.Sx.T
open Go Go.Sx
def ival_Weight (i : Int) : Option (List Leaf) :=
  br (decide (i < 0))
    (some [.i (0)])
    (one (↑8) fun x535 =>
     br (decide (i ≥ x535))
       (some [.i (0)])
       (chk (decide (0 ≤ i ∧ i < ↑8)) <|
        chk (decide (0 ≤ i ∧ i < ↑8)) <|
        some [.i (List.getD [5, 5, 5, 5, 4, 3, 2, 1] (Int.toNat i) 0)]))
def ival_sums_4_B  {α : Type} (kx : Nat → List Leaf → Option α) (kr : List Leaf → Option α) (again : List Int → Int → Int → Int → Int → Int → Option α) (closed : List Int) (t20 : Int) (a : Int) (b : Int) (w : Int) (t19 : Int) : Option α :=
  br (decide (t20 < t19))
    (chk (decide (0 ≤ t20 ∧ t20 < Int.ofNat (List.length closed))) <|
     chk (decide (0 ≤ t20 ∧ t20 < Int.ofNat (List.length closed))) <|
     out (ival_Weight t20) fun r571 =>
     un_i r571 fun x572 r573 =>
     un_nil r573 <|
     one (addI .u64 w x572) fun x574 =>
     out (ival_Weight t20) fun r575 =>
     un_i r575 fun x576 r577 =>
     un_nil r577 <|
     out (fix_Mul (List.getD closed (Int.toNat t20) 0) x576) fun r578 =>
     un_i r578 fun x579 r580 =>
     un_nil r580 <|
     out (fix_Add b x579) fun r581 =>
     un_i r581 fun x582 r583 =>
     un_nil r583 <|
     one (Int.ofNat (List.length closed)) fun x584 =>
     one (subI .i64 x584 1) fun x585 =>
     br (decide (t20 < x585))
       (one (addI .i64 t20 1) fun x586 =>
        out (ival_Weight x586) fun r587 =>
        un_i r587 fun x588 r589 =>
        un_nil r589 <|
        out (fix_Mul (List.getD closed (Int.toNat t20) 0) x588) fun r590 =>
        un_i r590 fun x591 r592 =>
        un_nil r592 <|
        out (fix_Add a x591) fun r593 =>
        un_i r593 fun x594 r595 =>
        un_nil r595 <|
        one (addI .i64 t20 1) fun x596 =>
        chk (decide (Int.ofNat (List.length closed) = Int.ofNat (List.length closed)) && (decide (Int.ofNat (List.length closed) = Int.ofNat (List.length closed)) && true)) <|
        again (closed) (x596) (x594) (x582) (x574) (t19))
       (one (addI .i64 t20 1) fun x597 =>
        chk (decide (Int.ofNat (List.length closed) = Int.ofNat (List.length closed)) && (decide (Int.ofNat (List.length closed) = Int.ofNat (List.length closed)) && true)) <|
        again (closed) (x597) (a) (x582) (x574) (t19)))
    (kx 0 [.li (closed), .i (b), .i (a), .i (w)])
def ival_sums_4_L {α : Type} (kx : Nat → List Leaf → Option α) (kr : List Leaf → Option α) : Nat → List Int → Int → Int → Int → Int → Int → Option α
  | 0, _, _, _, _, _, _ => none
  | n + 1, closed, t20, a, b, w, t19 => ival_sums_4_B  kx kr (ival_sums_4_L kx kr n) closed t20 a b w t19
def ival_sums_4_F (L4 : ({β : Type} → (Nat → List Leaf → Option β) → (List Leaf → Option β) → Nat → List Int → Int → Int → Int → Int → Int → Option β)) {α : Type} (n : Nat) (ls : List Leaf) (kx : Nat → List Leaf → Option α) (kr : List Leaf → Option α) : Option α := un_li ls fun closed rr => un_i rr fun t20 rr => un_i rr fun a rr => un_i rr fun b rr => un_i rr fun w rr => un_i rr fun t19 rr => un_nil rr (L4 kx kr n closed t20 a b w t19)
def ival_sums_d (L4 : ({β : Type} → (Nat → List Leaf → Option β) → (List Leaf → Option β) → Nat → List Int → Int → Int → Int → Int → Int → Option β)) (closed : List Int) (open2 : Int) : Option (List Leaf) :=
  one (Int.ofNat (List.length closed)) fun x598 =>
  one (minI x598 8) fun x599 =>
  chk (condSl (rlOf [[Col.int .u64 closed]] 0) Option.none (Option.some x599)) <|
  out (ival_Weight 0) fun r600 =>
  un_i r600 fun x601 r602 =>
  un_nil r602 <|
  out (fix_Mul open2 x601) fun r603 =>
  un_i r603 fun x604 r605 =>
  un_nil r605 <|
  chk (decide (x599 = Int.ofNat (List.length closed)) && (decide (x599 = Int.ofNat (List.length closed)) && true)) <|
  L4
    (fun i606 r607 =>
     br (Nat.beq 0 i606)
       (un_li r607 fun x608 r609 =>
        un_i r609 fun x610 r611 =>
        un_i r611 fun x612 r613 =>
        un_i r613 fun x614 r615 =>
        un_nil r615 <|
        one (maxI x612 x610) fun x616 =>
        some [.i (x614), .i (x616)])
       (none))
    (fun r617 =>
     un_nil r617 <|
     none)
    top (closed) (0) (x604) (0) (0) (x599)
def ival_sums (closed : List Int) (open2 : Int) : Option (List Leaf) := ival_sums_d @ival_sums_4_L closed open2
def ival_Mean (closed : List Int) (open2 : Int) : Option (List Leaf) :=
  chk (decide (Int.ofNat (List.length closed) = Int.ofNat (List.length closed)) && true) <|
  out (ival_sums closed open2) fun r618 =>
  un_i r618 fun x619 r620 =>
  un_i r620 fun x621 r622 =>
  un_nil r622 <|
  br (x619 == 0)
    (some [.i (0)])
    (chk (decide (x619 ≠ 0)) <|
     one (quoI .u64 x621 x619) fun x623 =>
     some [.i (x623)])
def ival_Rate (closed : List Int) (open2 : Int) : Option (List Leaf) :=
  chk (decide (Int.ofNat (List.length closed) = Int.ofNat (List.length closed)) && true) <|
  out (ival_sums closed open2) fun r624 =>
  un_i r624 fun x625 r626 =>
  un_i r626 fun x627 r628 =>
  un_nil r628 <|
  br (x625 == 0)
    (some [.i (0)])
    (out (fix_MulDiv x625 4294967296 x627) fun r629 =>
     un_i r629 fun x630 r631 =>
     un_nil r631 <|
     one (minI x630 4294967296) fun x632 =>
     some [.i (x632)])
end Go.Sx.T
