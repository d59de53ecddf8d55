import Derived.Test.YtfcaemjklnelhaaGreatDoorL6
import Derived.Test.YtfcaemjklnelhaaGreatDoorYPutSpec
set_option linter.all false
namespace Go.Sx.T
open Go Go.Sx
def law_cells_4_B  {α : Type} (kx : Nat → List Leaf → Option α) (kr : List Leaf → Option α) (again : List Int → List Int → List Int → List Int → Int → Int → Option α) (a0 : List Int) (a1 : List Int) (b0 : List Int) (b1 : List Int) (t13 : Int) (t12 : Int) : Option α :=
  br (decide (t13 < t12))
    (chk (decide ((0 : Int) ≤ t13 ∧ t13 < Int.ofNat (List.length a0))) <|
     chk (decide ((0 : Int) ≤ t13 ∧ t13 < Int.ofNat (List.length a0))) <|
     chk (decide ((0 : Int) ≤ t13 ∧ t13 < Int.ofNat (List.length b0))) <|
     chk (decide ((0 : Int) ≤ t13 ∧ t13 < Int.ofNat (List.length b0))) <|
     br (!eqP [Go.Value.int .i64 (List.getD a0 (Int.toNat (offAdd Option.none t13)) (0 : Int)), Go.Value.int .i64 (List.getD a1 (Int.toNat (offAdd Option.none t13)) (0 : Int))] [Go.Value.int .i64 (List.getD b0 (Int.toNat (offAdd Option.none t13)) (0 : Int)), Go.Value.int .i64 (List.getD b1 (Int.toNat (offAdd Option.none t13)) (0 : Int))])
       (kr [.li (a0), .li (a1), .li (b0), .li (b1), .b (false)])
       (one (addI .i64 t13 1) fun x202 =>
        chk (decide (Int.ofNat (List.length b0) = Int.ofNat (List.length b0)) && (decide (Int.ofNat (List.length a0) = Int.ofNat (List.length a0)) && true)) <|
        again (a0) (a1) (b0) (b1) (x202) (t12)))
    (kx 0 [.li (a0), .li (a1), .li (b0), .li (b1)])
def law_cells_4_L {α : Type} (kx : Nat → List Leaf → Option α) (kr : List Leaf → Option α) : Nat → List Int → List Int → List Int → List Int → Int → Int → Option α
  | 0, _, _, _, _, _, _ => none
  | n + 1, a0, a1, b0, b1, t13, t12 => law_cells_4_B  kx kr (law_cells_4_L kx kr n) a0 a1 b0 b1 t13 t12
def law_cells_4_F (L4 : ({β : Type} → (Nat → List Leaf → Option β) → (List Leaf → Option β) → Nat → List Int → List Int → List Int → List Int → Int → Int → Option β)) {α : Type} (n : Nat) (ls : List Leaf) (kx : Nat → List Leaf → Option α) (kr : List Leaf → Option α) : Option α := un_li ls fun a0 rr => un_li rr fun a1 rr => un_li rr fun b0 rr => un_li rr fun b1 rr => un_i rr fun t13 rr => un_i rr fun t12 rr => un_nil rr (L4 kx kr n a0 a1 b0 b1 t13 t12)
def law_cells_d (L4 : ({β : Type} → (Nat → List Leaf → Option β) → (List Leaf → Option β) → Nat → List Int → List Int → List Int → List Int → Int → Int → Option β)) (a0 : List Int) (a1 : List Int) (b0 : List Int) (b1 : List Int) : Option (List Leaf) :=
  one (Int.ofNat (List.length a0)) fun x203 =>
  one (Int.ofNat (List.length b0)) fun x204 =>
  br (x203 != x204)
    (some [.b (false)])
    (one (Int.ofNat (List.length a0)) fun x205 =>
     chk (decide (Int.ofNat (List.length b0) = Int.ofNat (List.length b0)) && (decide (Int.ofNat (List.length a0) = Int.ofNat (List.length a0)) && true)) <|
     L4
       (fun i206 r207 =>
        br (Nat.beq 0 i206)
          (un_li r207 fun x208 r209 =>
           un_li r209 fun x210 r211 =>
           un_li r211 fun x212 r213 =>
           un_li r213 fun x214 r215 =>
           un_nil r215 <|
           some [.b (true)])
          (none))
       (fun r216 =>
        un_li r216 fun x217 r218 =>
        un_li r218 fun x219 r220 =>
        un_li r220 fun x221 r222 =>
        un_li r222 fun x223 r224 =>
        un_b r224 fun x225 r226 =>
        un_nil r226 <|
        some [.b (x225)])
       top (a0) (a1) (b0) (b1) (0) (x205))
def law_cells (a0 : List Int) (a1 : List Int) (b0 : List Int) (b1 : List Int) : Option (List Leaf) := law_cells_d @law_cells_4_L a0 a1 b0 b1
end Go.Sx.T

