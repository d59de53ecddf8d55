import Derived.Test.YtllgbgponmkijaaGreatDoorYLowSpec
set_option linter.all false
namespace Go.Sx.T
open Go Go.Sx
def queue_Len (q_l : List ByteArray) (q_most : Int) : Option (List Leaf) :=
  one (Int.ofNat (List.length q_l)) fun x2615 =>
  some [.i (x2615)]
def queue_Put (q_l : List ByteArray) (q_most : Int) (d : ByteArray) : Option (List Leaf) :=
  one ((↑(ByteArray.size d) : Int)) fun x2616 =>
  br (decide (x2616 > 1400))
    (chk (decide (Int.ofNat (List.length q_l) = Int.ofNat (List.length q_l)) && true && true) <|
     some [.ls (q_l), .i (q_most), .i (13)])
    (one (Int.ofNat (List.length q_l)) fun x2617 =>
     br (decide (x2617 ≥ q_most))
       (chk (decide (Int.ofNat (List.length q_l) = Int.ofNat (List.length q_l)) && true && true) <|
        some [.ls (q_l), .i (q_most), .i (9)])
       (chk (decide (Int.ofNat (List.length q_l) = Int.ofNat (List.length q_l)) && true && decide ((Int.ofNat (List.length q_l) + (↑(1 : Nat) : Int)) * (↑(nat_lit 16) : Int) ≤ (140737488355328 : Int) ∧ Int.ofNat (List.length q_l) + (↑(1 : Nat) : Int) ≤ (4611686018427387904 : Int))) <|
        chk (decide (Int.ofNat (List.length q_l) + (↑(1 : Nat) : Int) = Int.ofNat (List.length (q_l ++ [d]))) && true && true) <|
        some [.ls (q_l ++ [d]), .i (q_most), .i (0)]))
def queue_First (q_l : List ByteArray) (q_most : Int) : Option (List Leaf) :=
  chk (decide (Int.ofNat (List.length q_l) = Int.ofNat (List.length q_l)) && true && true) <|
  out (queue_Len q_l q_most) fun r2618 =>
  un_i r2618 fun x2619 r2620 =>
  un_nil r2620 <|
  br (x2619 == 0)
    (some [.s ({ data := #[] }), .b (false)])
    (chk (decide ((0 : Int) ≤ (0 : Int) ∧ (0 : Int) < Int.ofNat (List.length q_l))) <|
     chk (decide ((0 : Int) ≤ Int.ofNat (nat_lit 0) ∧ Int.ofNat (nat_lit 0) < Int.ofNat (List.length q_l))) <|
     some [.s (List.getD q_l (Int.toNat (Int.ofNat 0)) ByteArray.empty), .b (true)])
def queue_Take (q_l : List ByteArray) (q_most : Int) : Option (List Leaf) :=
  chk (decide (Int.ofNat (List.length q_l) = Int.ofNat (List.length q_l)) && true && true) <|
  out (queue_First q_l q_most) fun r2621 =>
  un_s r2621 fun x2622 r2623 =>
  un_b r2623 fun x2624 r2625 =>
  un_nil r2625 <|
  br (x2624)
    (chk (condSl (rlOf [[], [Col.str q_l]] (1 : Nat)) (Option.some (1 : Int)) Option.none) <|
     chk (decide (Int.ofNat (nat_lit 1) + lenSl (rlOf [[], [Col.str q_l]] (1 : Nat)) (Option.some (1 : Int)) Option.none ≤ Int.ofNat (List.length q_l))) <|
     chk (decide (lenSl (rlOf [[], [Col.str q_l]] (1 : Nat)) (Option.some (1 : Int)) Option.none = Int.ofNat (List.length (List.take (Int.toNat (lenSl (rlOf [[], [Col.str q_l]] (1 : Nat)) (Option.some (1 : Int)) Option.none)) (List.drop (Int.toNat (Int.ofNat (nat_lit 1))) q_l)))) && true && true) <|
     some [.ls (List.take (Int.toNat (lenSl (rlOf [[], [Col.str q_l]] 1) (Option.some 1) Option.none)) (List.drop (Int.toNat (Int.ofNat 1)) q_l)), .i (q_most), .s (x2622), .b (x2624)])
    (chk (decide (Int.ofNat (List.length q_l) = Int.ofNat (List.length q_l)) && true && true) <|
     some [.ls (q_l), .i (q_most), .s (x2622), .b (x2624)])
def queue_Bytes_3_B  {α : Type} (kx : Nat → List Leaf → Option α) (kr : List Leaf → Option α) (again : List ByteArray → Int → Int → Int → Int → Option α) (q_l : List ByteArray) (q_most : Int) (t7 : Int) (n2 : Int) (t6 : Int) : Option α :=
  br (decide (t7 < t6))
    (chk (decide ((0 : Int) ≤ t7 ∧ t7 < Int.ofNat (List.length q_l))) <|
     chk (decide ((0 : Int) ≤ t7 ∧ t7 < Int.ofNat (List.length q_l))) <|
     one ((↑(ByteArray.size (List.getD q_l (Int.toNat t7) ByteArray.empty)) : Int)) fun x2632 =>
     one (addI .i64 n2 x2632) fun x2633 =>
     one (addI .i64 t7 1) fun x2634 =>
     chk (decide (Int.ofNat (List.length q_l) = Int.ofNat (List.length q_l)) && true && true) <|
     again (q_l) (q_most) (x2634) (x2633) (t6))
    (chk (decide (Int.ofNat (List.length q_l) = Int.ofNat (List.length q_l)) && true && true) <|
     kx 0 [.ls (q_l), .i (q_most), .i (n2)])
def queue_Bytes_3_L {α : Type} (kx : Nat → List Leaf → Option α) (kr : List Leaf → Option α) : Nat → List ByteArray → Int → Int → Int → Int → Option α
  | 0, _, _, _, _, _ => none
  | n + 1, q_l, q_most, t7, n2, t6 => queue_Bytes_3_B  kx kr (queue_Bytes_3_L kx kr n) q_l q_most t7 n2 t6
def queue_Bytes_3_F (L3 : ({β : Type} → (Nat → List Leaf → Option β) → (List Leaf → Option β) → Nat → List ByteArray → Int → Int → Int → Int → Option β)) {α : Type} (n : Nat) (ls : List Leaf) (kx : Nat → List Leaf → Option α) (kr : List Leaf → Option α) : Option α := un_ls ls fun q_l rr => un_i rr fun q_most rr => un_i rr fun t7 rr => un_i rr fun n2 rr => un_i rr fun t6 rr => un_nil rr (L3 kx kr n q_l q_most t7 n2 t6)
def queue_Bytes_d (L3 : ({β : Type} → (Nat → List Leaf → Option β) → (List Leaf → Option β) → Nat → List ByteArray → Int → Int → Int → Int → Option β)) (q_l : List ByteArray) (q_most : Int) : Option (List Leaf) :=
  chk (decide (Int.ofNat (List.length q_l) = Int.ofNat (List.length q_l)) && true && true) <|
  out (queue_Len q_l q_most) fun r2635 =>
  un_i r2635 fun x2636 r2637 =>
  un_nil r2637 <|
  chk (decide (Int.ofNat (List.length q_l) = Int.ofNat (List.length q_l)) && true && true) <|
  L3
    (fun i2638 r2639 =>
     br (Nat.beq 0 i2638)
       (un_ls r2639 fun x2640 r2641 =>
        un_i r2641 fun x2642 r2643 =>
        un_i r2643 fun x2644 r2645 =>
        un_nil r2645 <|
        some [.i (x2644)])
       (none))
    (fun r2646 =>
     un_nil r2646 <|
     none)
    top (q_l) (q_most) (0) (0) (x2636)
def queue_Bytes (q_l : List ByteArray) (q_most : Int) : Option (List Leaf) := queue_Bytes_d @queue_Bytes_3_L q_l q_most
end Go.Sx.T

