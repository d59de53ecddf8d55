import Derived.Test.YtfcaemjklnelhaaGreatDoorYCelSpec
set_option linter.all false
namespace Go.Sx.T
open Go Go.Sx
def law1_Text (s : ByteArray) (n2 : Int) : Option (List Leaf) :=
  one ((↑(ByteArray.size s) : Int)) fun x340 =>
  one (minI x340 n2) fun x341 =>
  chk (condSl (↑(ByteArray.size s) : Int) Option.none (Option.some x341)) <|
  some [.s (strSlO s Option.none (Option.some x341))]
def ref_State (s : Int) : Option (List Leaf) :=
  br (s == 0)
    (some [.b (true)])
    (br (s == 1)
       (some [.b (true)])
       (some [.b (s == 3)]))
def ref_MayCells_3_B  {α : Type} (kx : Nat → List Leaf → Option α) (kr : List Leaf → Option α) (again : List Int → List Int → Int → Int → Option α) (cs0 : List Int) (cs1 : List Int) (i : Int) (n2 : Int) : Option α :=
  one (Int.ofNat (List.length cs0)) fun x349 =>
  br (decide (i < x349))
    (chk (decide ((0 : Int) ≤ i ∧ i < Int.ofNat (List.length cs0))) <|
     chk (decide ((0 : Int) ≤ i ∧ i < Int.ofNat (List.length cs0))) <|
     out (ref_State (List.getD cs0 (Int.toNat i) 0)) fun r350 =>
     un_b r350 fun x351 r352 =>
     un_nil r352 <|
     br (!x351)
       (kr [.li (cs0), .li (cs1), .b (false)])
       (chk (decide ((0 : Int) ≤ i ∧ i < Int.ofNat (List.length cs0))) <|
        chk (decide ((0 : Int) ≤ i ∧ i < Int.ofNat (List.length cs0))) <|
        br (decide (List.getD cs1 (Int.toNat i) 0 < 1))
          (kr [.li (cs0), .li (cs1), .b (false)])
          (chk (decide ((0 : Int) ≤ i ∧ i < Int.ofNat (List.length cs0))) <|
           chk (decide ((0 : Int) ≤ i ∧ i < Int.ofNat (List.length cs0))) <|
           br (decide (List.getD cs1 (Int.toNat i) 0 > 64))
             (kr [.li (cs0), .li (cs1), .b (false)])
             (chk (decide ((0 : Int) ≤ i ∧ i < Int.ofNat (List.length cs0))) <|
              chk (decide ((0 : Int) ≤ i ∧ i < Int.ofNat (List.length cs0))) <|
              one (subI .i64 1000 (List.getD cs1 (Int.toNat i) 0)) fun x353 =>
              br (decide (n2 > x353))
                (kr [.li (cs0), .li (cs1), .b (false)])
                (chk (decide ((0 : Int) ≤ i ∧ i < Int.ofNat (List.length cs0))) <|
                 chk (decide ((0 : Int) ≤ i ∧ i < Int.ofNat (List.length cs0))) <|
                 one (addI .i64 n2 (List.getD cs1 (Int.toNat i) 0)) fun x354 =>
                 one (addI .i64 i 1) fun x355 =>
                 chk (decide (Int.ofNat (List.length cs0) = Int.ofNat (List.length cs0)) && true) <|
                 again (cs0) (cs1) (x355) (x354))))))
    (kx 0 [.li (cs0), .li (cs1)])
def ref_MayCells_3_L {α : Type} (kx : Nat → List Leaf → Option α) (kr : List Leaf → Option α) : Nat → List Int → List Int → Int → Int → Option α
  | 0, _, _, _, _ => none
  | n + 1, cs0, cs1, i, n2 => ref_MayCells_3_B  kx kr (ref_MayCells_3_L kx kr n) cs0 cs1 i n2
def ref_MayCells_3_F (L3 : ({β : Type} → (Nat → List Leaf → Option β) → (List Leaf → Option β) → Nat → List Int → List Int → Int → Int → Option β)) {α : Type} (n : Nat) (ls : List Leaf) (kx : Nat → List Leaf → Option α) (kr : List Leaf → Option α) : Option α := un_li ls fun cs0 rr => un_li rr fun cs1 rr => un_i rr fun i rr => un_i rr fun n2 rr => un_nil rr (L3 kx kr n cs0 cs1 i n2)
def ref_MayCells_d (L3 : ({β : Type} → (Nat → List Leaf → Option β) → (List Leaf → Option β) → Nat → List Int → List Int → Int → Int → Option β)) (cs0 : List Int) (cs1 : List Int) : Option (List Leaf) :=
  chk (decide (Int.ofNat (List.length cs0) = Int.ofNat (List.length cs0)) && true) <|
  L3
    (fun i356 r357 =>
     br (Nat.beq 0 i356)
       (un_li r357 fun x358 r359 =>
        un_li r359 fun x360 r361 =>
        un_nil r361 <|
        some [.b (true)])
       (none))
    (fun r362 =>
     un_li r362 fun x363 r364 =>
     un_li r364 fun x365 r366 =>
     un_b r366 fun x367 r368 =>
     un_nil r368 <|
     some [.b (x367)])
    top (cs0) (cs1) (0) (0)
def ref_MayCells (cs0 : List Int) (cs1 : List Int) : Option (List Leaf) := ref_MayCells_d @ref_MayCells_3_L cs0 cs1
def ref_Spread_8_B  {α : Type} (kx : Nat → List Leaf → Option α) (kr : List Leaf → Option α) (again : List Int → List Int → List Int → Int → Int → Option α) (cs0 : List Int) (cs1 : List Int) (l : List Int) (k : Int) (i : Int) : Option α :=
  chk (decide ((0 : Int) ≤ i ∧ i < Int.ofNat (List.length cs0))) <|
  chk (decide ((0 : Int) ≤ i ∧ i < Int.ofNat (List.length cs0))) <|
  br (decide (k < List.getD cs1 (Int.toNat i) 0))
    (chk (decide ((0 : Int) ≤ i ∧ i < Int.ofNat (List.length cs0))) <|
     chk (decide ((0 : Int) ≤ i ∧ i < Int.ofNat (List.length cs0))) <|
     chk (decide (Int.ofNat (List.length l) = Int.ofNat (List.length l)) && true && decide ((Int.ofNat (List.length l) + (↑(1 : Nat) : Int)) * (↑(nat_lit 8) : Int) ≤ (140737488355328 : Int) ∧ Int.ofNat (List.length l) + (↑(1 : Nat) : Int) ≤ (4611686018427387904 : Int))) <|
     one (addI .i64 k 1) fun x374 =>
     chk (decide (Int.ofNat (List.length cs0) = Int.ofNat (List.length cs0)) && (decide (Int.ofNat (List.length l) + (↑(1 : Nat) : Int) = Int.ofNat (List.length (l ++ [List.getD cs0 (Int.toNat i) (0 : Int)]))) && true)) <|
     again (cs0) (cs1) (l ++ [List.getD cs0 (Int.toNat i) (0 : Int)]) (x374) (i))
    (chk (decide (Int.ofNat (List.length cs0) = Int.ofNat (List.length cs0)) && (decide (Int.ofNat (List.length l) = Int.ofNat (List.length l)) && true)) <|
     kx 2 [.li (cs0), .li (cs1), .li (l), .i (i)])
def ref_Spread_8_L {α : Type} (kx : Nat → List Leaf → Option α) (kr : List Leaf → Option α) : Nat → List Int → List Int → List Int → Int → Int → Option α
  | 0, _, _, _, _, _ => none
  | n + 1, cs0, cs1, l, k, i => ref_Spread_8_B  kx kr (ref_Spread_8_L kx kr n) cs0 cs1 l k i
def ref_Spread_8_F (L8 : ({β : Type} → (Nat → List Leaf → Option β) → (List Leaf → Option β) → Nat → List Int → List Int → List Int → Int → Int → Option β)) {α : Type} (n : Nat) (ls : List Leaf) (kx : Nat → List Leaf → Option α) (kr : List Leaf → Option α) : Option α := un_li ls fun cs0 rr => un_li rr fun cs1 rr => un_li rr fun l rr => un_i rr fun k rr => un_i rr fun i rr => un_nil rr (L8 kx kr n cs0 cs1 l k i)
def ref_Spread_5_B (L8 : ({β : Type} → (Nat → List Leaf → Option β) → (List Leaf → Option β) → Nat → List Int → List Int → List Int → Int → Int → Option β)) {α : Type} (kx : Nat → List Leaf → Option α) (kr : List Leaf → Option α) (again : List Int → List Int → List Int → Int → Option α) (cs0 : List Int) (cs1 : List Int) (l : List Int) (i : Int) : Option α :=
  one (Int.ofNat (List.length cs0)) fun x388 =>
  br (decide (i < x388))
    (chk (decide (Int.ofNat (List.length cs0) = Int.ofNat (List.length cs0)) && (decide (Int.ofNat (List.length l) = Int.ofNat (List.length l)) && true)) <|
     L8
       (fun i389 r390 =>
        br (Nat.beq 2 i389)
          (un_li r390 fun x391 r392 =>
           un_li r392 fun x393 r394 =>
           un_li r394 fun x395 r396 =>
           un_i r396 fun x397 r398 =>
           un_nil r398 <|
           one (addI .i64 x397 1) fun x399 =>
           chk (decide (Int.ofNat (List.length x391) = Int.ofNat (List.length x391)) && (decide (Int.ofNat (List.length x395) = Int.ofNat (List.length x395)) && true)) <|
           again (x391) (x393) (x395) (x399))
          (none))
       (fun r400 =>
        un_nil r400 <|
        none)
       top (cs0) (cs1) (l) (0) (i))
    (chk (decide (Int.ofNat (List.length l) = Int.ofNat (List.length l)) && true) <|
     kx 0 [.li (cs0), .li (cs1), .li (l)])
def ref_Spread_5_L {α : Type} (kx : Nat → List Leaf → Option α) (kr : List Leaf → Option α) : Nat → List Int → List Int → List Int → Int → Option α
  | 0, _, _, _, _ => none
  | n + 1, cs0, cs1, l, i => ref_Spread_5_B @ref_Spread_8_L kx kr (ref_Spread_5_L kx kr n) cs0 cs1 l i
def ref_Spread_5_F (L5 : ({β : Type} → (Nat → List Leaf → Option β) → (List Leaf → Option β) → Nat → List Int → List Int → List Int → Int → Option β)) {α : Type} (n : Nat) (ls : List Leaf) (kx : Nat → List Leaf → Option α) (kr : List Leaf → Option α) : Option α := un_li ls fun cs0 rr => un_li rr fun cs1 rr => un_li rr fun l rr => un_i rr fun i rr => un_nil rr (L5 kx kr n cs0 cs1 l i)
def ref_Spread_d (L5 : ({β : Type} → (Nat → List Leaf → Option β) → (List Leaf → Option β) → Nat → List Int → List Int → List Int → Int → Option β)) (cs0 : List Int) (cs1 : List Int) : Option (List Leaf) :=
  chk (decide (Int.ofNat (List.length cs0) = Int.ofNat (List.length cs0)) && true) <|
  out (ref_MayCells cs0 cs1) fun r401 =>
  un_b r401 fun x402 r403 =>
  un_nil r403 <|
  br (!x402)
    (chk (decide ((0 : Int) = Int.ofNat (0 : Nat)) && true) <|
     some [.li ([])])
    (chk (decide (Int.ofNat (List.length cs0) = Int.ofNat (List.length cs0)) && (decide ((0 : Int) = Int.ofNat (0 : Nat)) && true)) <|
     L5
       (fun i404 r405 =>
        br (Nat.beq 0 i404)
          (un_li r405 fun x406 r407 =>
           un_li r407 fun x408 r409 =>
           un_li r409 fun x410 r411 =>
           un_nil r411 <|
           chk (decide (Int.ofNat (List.length x410) = Int.ofNat (List.length x410)) && true) <|
           some [.li (x410)])
          (none))
       (fun r412 =>
        un_nil r412 <|
        none)
       top (cs0) (cs1) ([]) (0))
def ref_Spread (cs0 : List Int) (cs1 : List Int) : Option (List Leaf) := ref_Spread_d @ref_Spread_5_L cs0 cs1
def ref_Of_3_B  {α : Type} (kx : Nat → List Leaf → Option α) (kr : List Leaf → Option α) (again : List Int → List Int → List Int → Int → Option α) (states : List Int) (l0 : List Int) (l1 : List Int) (i : Int) : Option α :=
  one (Int.ofNat (List.length states)) fun x424 =>
  br (decide (i < x424))
    (chk (decide ((0 : Int) ≤ i ∧ i < Int.ofNat (List.length states))) <|
     chk (decide ((0 : Int) ≤ i ∧ i < Int.ofNat (List.length states))) <|
     out (ref_State (List.getD states (Int.toNat i) 0)) fun r425 =>
     un_b r425 fun x426 r427 =>
     un_nil r427 <|
     br (!x426)
       (chk (decide ((0 : Int) = Int.ofNat (0 : Nat)) && true) <|
        kr [.li (states), .li ([]), .li ([])])
       (one (Int.ofNat (List.length l0)) fun x428 =>
        one (subI .i64 x428 1) fun x429 =>
        br (decide (x429 ≥ 0))
          (chk (decide ((0 : Int) ≤ x429 ∧ x429 < Int.ofNat (List.length l0))) <|
           chk (decide ((0 : Int) ≤ x429 ∧ x429 < Int.ofNat (List.length l0))) <|
           chk (decide ((0 : Int) ≤ i ∧ i < Int.ofNat (List.length states))) <|
           chk (decide ((0 : Int) ≤ i ∧ i < Int.ofNat (List.length states))) <|
           br (List.getD l0 (Int.toNat x429) 0 == List.getD states (Int.toNat i) 0)
             (chk (decide ((0 : Int) ≤ x429 ∧ x429 < Int.ofNat (List.length l0))) <|
              chk (decide ((0 : Int) ≤ x429 ∧ x429 < Int.ofNat (List.length l0))) <|
              br (decide (List.getD l1 (Int.toNat x429) 0 < 64))
                (chk (decide ((0 : Int) ≤ x429 ∧ x429 < Int.ofNat (List.length l0))) <|
                 chk (decide ((0 : Int) ≤ x429 ∧ x429 < Int.ofNat (List.length l0))) <|
                 one (addI .i64 (List.getD l1 (Int.toNat x429) 0) 1) fun x430 =>
                 chk (decide ((0 : Int) ≤ x429 ∧ x429 < Int.ofNat (List.length l0))) <|
                 chk (decide ((0 : Int) ≤ x429 ∧ x429 < Int.ofNat (List.length l0))) <|
                 one (addI .i64 i 1) fun x431 =>
                 chk (decide (Int.ofNat (List.length l0) = Int.ofNat (List.length l0)) && (decide (Int.ofNat (List.length states) = Int.ofNat (List.length states)) && true)) <|
                 again (states) (l0) (List.set l1 (Int.toNat x429) x430) (x431))
                (chk (decide ((0 : Int) ≤ i ∧ i < Int.ofNat (List.length states))) <|
                 chk (decide ((0 : Int) ≤ i ∧ i < Int.ofNat (List.length states))) <|
                 chk (decide (Int.ofNat (List.length l0) = Int.ofNat (List.length l0)) && true && decide ((Int.ofNat (List.length l0) + (↑(1 : Nat) : Int)) * (↑(nat_lit 16) : Int) ≤ (140737488355328 : Int) ∧ Int.ofNat (List.length l0) + (↑(1 : Nat) : Int) ≤ (4611686018427387904 : Int))) <|
                 one (addI .i64 i 1) fun x432 =>
                 chk (decide (Int.ofNat (List.length l0) + (↑(1 : Nat) : Int) = Int.ofNat (List.length (l0 ++ [List.getD states (Int.toNat i) (0 : Int)]))) && (decide (Int.ofNat (List.length states) = Int.ofNat (List.length states)) && true)) <|
                 again (states) (l0 ++ [List.getD states (Int.toNat i) (0 : Int)]) (l1 ++ [(1 : Int)]) (x432)))
             (chk (decide ((0 : Int) ≤ i ∧ i < Int.ofNat (List.length states))) <|
              chk (decide ((0 : Int) ≤ i ∧ i < Int.ofNat (List.length states))) <|
              chk (decide (Int.ofNat (List.length l0) = Int.ofNat (List.length l0)) && true && decide ((Int.ofNat (List.length l0) + (↑(1 : Nat) : Int)) * (↑(nat_lit 16) : Int) ≤ (140737488355328 : Int) ∧ Int.ofNat (List.length l0) + (↑(1 : Nat) : Int) ≤ (4611686018427387904 : Int))) <|
              one (addI .i64 i 1) fun x433 =>
              chk (decide (Int.ofNat (List.length l0) + (↑(1 : Nat) : Int) = Int.ofNat (List.length (l0 ++ [List.getD states (Int.toNat i) (0 : Int)]))) && (decide (Int.ofNat (List.length states) = Int.ofNat (List.length states)) && true)) <|
              again (states) (l0 ++ [List.getD states (Int.toNat i) (0 : Int)]) (l1 ++ [(1 : Int)]) (x433)))
          (chk (decide ((0 : Int) ≤ i ∧ i < Int.ofNat (List.length states))) <|
           chk (decide ((0 : Int) ≤ i ∧ i < Int.ofNat (List.length states))) <|
           chk (decide (Int.ofNat (List.length l0) = Int.ofNat (List.length l0)) && true && decide ((Int.ofNat (List.length l0) + (↑(1 : Nat) : Int)) * (↑(nat_lit 16) : Int) ≤ (140737488355328 : Int) ∧ Int.ofNat (List.length l0) + (↑(1 : Nat) : Int) ≤ (4611686018427387904 : Int))) <|
           one (addI .i64 i 1) fun x434 =>
           chk (decide (Int.ofNat (List.length l0) + (↑(1 : Nat) : Int) = Int.ofNat (List.length (l0 ++ [List.getD states (Int.toNat i) (0 : Int)]))) && (decide (Int.ofNat (List.length states) = Int.ofNat (List.length states)) && true)) <|
           again (states) (l0 ++ [List.getD states (Int.toNat i) (0 : Int)]) (l1 ++ [(1 : Int)]) (x434))))
    (chk (decide (Int.ofNat (List.length l0) = Int.ofNat (List.length l0)) && true) <|
     kx 0 [.li (states), .li (l0), .li (l1)])
def ref_Of_3_L {α : Type} (kx : Nat → List Leaf → Option α) (kr : List Leaf → Option α) : Nat → List Int → List Int → List Int → Int → Option α
  | 0, _, _, _, _ => none
  | n + 1, states, l0, l1, i => ref_Of_3_B  kx kr (ref_Of_3_L kx kr n) states l0 l1 i
def ref_Of_3_F (L3 : ({β : Type} → (Nat → List Leaf → Option β) → (List Leaf → Option β) → Nat → List Int → List Int → List Int → Int → Option β)) {α : Type} (n : Nat) (ls : List Leaf) (kx : Nat → List Leaf → Option α) (kr : List Leaf → Option α) : Option α := un_li ls fun states rr => un_li rr fun l0 rr => un_li rr fun l1 rr => un_i rr fun i rr => un_nil rr (L3 kx kr n states l0 l1 i)
def ref_Of_d (L3 : ({β : Type} → (Nat → List Leaf → Option β) → (List Leaf → Option β) → Nat → List Int → List Int → List Int → Int → Option β)) (states : List Int) : Option (List Leaf) :=
  chk (decide ((0 : Int) = Int.ofNat (0 : Nat)) && (decide (Int.ofNat (List.length states) = Int.ofNat (List.length states)) && true)) <|
  L3
    (fun i435 r436 =>
     br (Nat.beq 0 i435)
       (un_li r436 fun x437 r438 =>
        un_li r438 fun x439 r440 =>
        un_li r440 fun x441 r442 =>
        un_nil r442 <|
        chk (decide (Int.ofNat (List.length x439) = Int.ofNat (List.length x439)) && true) <|
        some [.li (x439), .li (x441)])
       (none))
    (fun r443 =>
     un_li r443 fun x444 r445 =>
     un_li r445 fun x446 r447 =>
     un_li r447 fun x448 r449 =>
     un_nil r449 <|
     chk (decide (Int.ofNat (List.length x446) = Int.ofNat (List.length x446)) && true) <|
     some [.li (x446), .li (x448)])
    top (states) ([]) ([]) (0)
def ref_Of (states : List Int) : Option (List Leaf) := ref_Of_d @ref_Of_3_L states
def ref_Vector_5_B  {α : Type} (kx : Nat → List Leaf → Option α) (kr : List Leaf → Option α) (again : List Int → List Int → List ByteArray → Int → Option α) (cs0 : List Int) (cs1 : List Int) (l : List ByteArray) (i : Int) : Option α :=
  one (Int.ofNat (List.length cs0)) fun x469 =>
  br (decide (i < x469))
    (one (remI .i64 i 253) fun x470 =>
     br (x470 == 0)
       (chk (decide (Int.ofNat (List.length l) = Int.ofNat (List.length l)) && true && decide ((Int.ofNat (List.length l) + (↑(1 : Nat) : Int)) * (↑(nat_lit 16) : Int) ≤ (140737488355328 : Int) ∧ Int.ofNat (List.length l) + (↑(1 : Nat) : Int) ≤ (4611686018427387904 : Int))) <|
        one (Int.ofNat (List.length l) + (↑1 : Int)) fun x471 =>
        one (subI .i64 x471 1) fun x472 =>
        chk (decide ((0 : Int) ≤ x472 ∧ x472 < Int.ofNat (List.length l) + (↑(1 : Nat) : Int))) <|
        chk (decide ((0 : Int) ≤ x472 ∧ x472 < Int.ofNat (List.length l) + (↑(1 : Nat) : Int))) <|
        chk (decide ((0 : Int) ≤ i ∧ i < Int.ofNat (List.length cs0))) <|
        chk (decide ((0 : Int) ≤ i ∧ i < Int.ofNat (List.length cs0))) <|
        one (mulI .i64 (List.getD cs0 (Int.toNat i) 0) 64) fun x473 =>
        chk (decide ((0 : Int) ≤ i ∧ i < Int.ofNat (List.length cs0))) <|
        chk (decide ((0 : Int) ≤ i ∧ i < Int.ofNat (List.length cs0))) <|
        one (addI .i64 x473 (List.getD cs1 (Int.toNat i) 0)) fun x474 =>
        one (subI .i64 x474 1) fun x475 =>
        one (wrapI .u8 x475) fun x476 =>
        chk (Nat.ble (ByteArray.size (List.getD (l ++ [{ data := #[] }]) (Int.toNat (offAdd Option.none x472)) ByteArray.empty) + ByteArray.size (strOfI (partL Option.none (↑(1 : Nat) : Int) [x476]))) (9223372036854775807 : Nat)) <|
        chk (decide ((0 : Int) ≤ x472 ∧ x472 < Int.ofNat (List.length l) + (↑(1 : Nat) : Int))) <|
        chk (decide ((0 : Int) ≤ x472 ∧ x472 < Int.ofNat (List.length l) + (↑(1 : Nat) : Int))) <|
        one (addI .i64 i 1) fun x477 =>
        chk (decide (Int.ofNat (List.length cs0) = Int.ofNat (List.length cs0)) && (decide (Int.ofNat (List.length l) + (↑(1 : Nat) : Int) = Int.ofNat (List.length (List.set (l ++ [{ data := #[] }]) (Int.toNat x472) (List.getD (l ++ [{ data := #[] }]) (Int.toNat x472) ByteArray.empty ++ strOfI (partL Option.none (↑(1 : Nat) : Int) [x476]))))) && true)) <|
        again (cs0) (cs1) (List.set (l ++ [{ data := #[] }]) (Int.toNat x472) (List.getD (l ++ [{ data := #[] }]) (Int.toNat x472) ByteArray.empty ++ strOfI (partL Option.none (↑(1 : Nat) : Int) [x476]))) (x477))
       (one (Int.ofNat (List.length l)) fun x478 =>
        one (subI .i64 x478 1) fun x479 =>
        chk (decide ((0 : Int) ≤ x479 ∧ x479 < Int.ofNat (List.length l))) <|
        chk (decide ((0 : Int) ≤ x479 ∧ x479 < Int.ofNat (List.length l))) <|
        chk (decide ((0 : Int) ≤ i ∧ i < Int.ofNat (List.length cs0))) <|
        chk (decide ((0 : Int) ≤ i ∧ i < Int.ofNat (List.length cs0))) <|
        one (mulI .i64 (List.getD cs0 (Int.toNat i) 0) 64) fun x480 =>
        chk (decide ((0 : Int) ≤ i ∧ i < Int.ofNat (List.length cs0))) <|
        chk (decide ((0 : Int) ≤ i ∧ i < Int.ofNat (List.length cs0))) <|
        one (addI .i64 x480 (List.getD cs1 (Int.toNat i) 0)) fun x481 =>
        one (subI .i64 x481 1) fun x482 =>
        one (wrapI .u8 x482) fun x483 =>
        chk (Nat.ble (ByteArray.size (List.getD l (Int.toNat (offAdd Option.none x479)) ByteArray.empty) + ByteArray.size (strOfI (partL Option.none (↑(1 : Nat) : Int) [x483]))) (9223372036854775807 : Nat)) <|
        chk (decide ((0 : Int) ≤ x479 ∧ x479 < Int.ofNat (List.length l))) <|
        chk (decide ((0 : Int) ≤ x479 ∧ x479 < Int.ofNat (List.length l))) <|
        one (addI .i64 i 1) fun x484 =>
        chk (decide (Int.ofNat (List.length cs0) = Int.ofNat (List.length cs0)) && (decide (Int.ofNat (List.length l) = Int.ofNat (List.length (List.set l (Int.toNat x479) (List.getD l (Int.toNat x479) ByteArray.empty ++ strOfI (partL Option.none (↑(1 : Nat) : Int) [x483]))))) && true)) <|
        again (cs0) (cs1) (List.set l (Int.toNat x479) (List.getD l (Int.toNat x479) ByteArray.empty ++ strOfI (partL Option.none (↑(1 : Nat) : Int) [x483]))) (x484)))
    (chk (decide (Int.ofNat (List.length l) = Int.ofNat (List.length l)) && true) <|
     kx 0 [.li (cs0), .li (cs1), .ls (l)])
def ref_Vector_5_L {α : Type} (kx : Nat → List Leaf → Option α) (kr : List Leaf → Option α) : Nat → List Int → List Int → List ByteArray → Int → Option α
  | 0, _, _, _, _ => none
  | n + 1, cs0, cs1, l, i => ref_Vector_5_B  kx kr (ref_Vector_5_L kx kr n) cs0 cs1 l i
def ref_Vector_5_F (L5 : ({β : Type} → (Nat → List Leaf → Option β) → (List Leaf → Option β) → Nat → List Int → List Int → List ByteArray → Int → Option β)) {α : Type} (n : Nat) (ls : List Leaf) (kx : Nat → List Leaf → Option α) (kr : List Leaf → Option α) : Option α := un_li ls fun cs0 rr => un_li rr fun cs1 rr => un_ls rr fun l rr => un_i rr fun i rr => un_nil rr (L5 kx kr n cs0 cs1 l i)
def ref_Vector_d (L5 : ({β : Type} → (Nat → List Leaf → Option β) → (List Leaf → Option β) → Nat → List Int → List Int → List ByteArray → Int → Option β)) (cs0 : List Int) (cs1 : List Int) : Option (List Leaf) :=
  chk (decide (Int.ofNat (List.length cs0) = Int.ofNat (List.length cs0)) && true) <|
  out (ref_MayCells cs0 cs1) fun r485 =>
  un_b r485 fun x486 r487 =>
  un_nil r487 <|
  br (!x486)
    (chk (decide ((0 : Int) = Int.ofNat (0 : Nat)) && true) <|
     some [.ls ([])])
    (chk (decide (Int.ofNat (List.length cs0) = Int.ofNat (List.length cs0)) && (decide ((0 : Int) = Int.ofNat (0 : Nat)) && true)) <|
     L5
       (fun i488 r489 =>
        br (Nat.beq 0 i488)
          (un_li r489 fun x490 r491 =>
           un_li r491 fun x492 r493 =>
           un_ls r493 fun x494 r495 =>
           un_nil r495 <|
           chk (decide (Int.ofNat (List.length x494) = Int.ofNat (List.length x494)) && true) <|
           some [.ls (x494)])
          (none))
       (fun r496 =>
        un_nil r496 <|
        none)
       top (cs0) (cs1) ([]) (0))
def ref_Vector (cs0 : List Int) (cs1 : List Int) : Option (List Leaf) := ref_Vector_d @ref_Vector_5_L cs0 cs1
def ref_GetVector_3_B  {α : Type} (kx : Nat → List Leaf → Option α) (kr : List Leaf → Option α) (again : List Int → List Int → Int → ByteArray → Option α) (l0 : List Int) (l1 : List Int) (i : Int) (s : ByteArray) : Option α :=
  one ((↑(ByteArray.size s) : Int)) fun x506 =>
  br (decide (i < x506))
    (chk (decide (0 ≤ i ∧ i < (↑(ByteArray.size s) : Int))) <|
     one (bt s i) fun x507 =>
     one (quoI .u8 x507 64) fun x508 =>
     one (wrapI .i64 x508) fun x509 =>
     chk (decide (0 ≤ i ∧ i < (↑(ByteArray.size s) : Int))) <|
     one (bt s i) fun x510 =>
     one (remI .u8 x510 64) fun x511 =>
     one (wrapI .i64 x511) fun x512 =>
     one (addI .i64 x512 1) fun x513 =>
     br (x509 == 2)
       (chk (decide ((0 : Int) = Int.ofNat (0 : Nat)) && true) <|
        kr [.li ([]), .li ([]), .b (false)])
       (chk (decide (Int.ofNat (List.length l0) = Int.ofNat (List.length l0)) && true && decide ((Int.ofNat (List.length l0) + (↑(1 : Nat) : Int)) * (↑(nat_lit 16) : Int) ≤ (140737488355328 : Int) ∧ Int.ofNat (List.length l0) + (↑(1 : Nat) : Int) ≤ (4611686018427387904 : Int))) <|
        one (addI .i64 i 1) fun x514 =>
        chk (decide (Int.ofNat (List.length l0) + (↑(1 : Nat) : Int) = Int.ofNat (List.length (l0 ++ [x509]))) && true) <|
        again (l0 ++ [x509]) (l1 ++ [x513]) (x514) (s)))
    (chk (decide (Int.ofNat (List.length l0) = Int.ofNat (List.length l0)) && true) <|
     kx 0 [.li (l0), .li (l1)])
def ref_GetVector_3_L {α : Type} (kx : Nat → List Leaf → Option α) (kr : List Leaf → Option α) : Nat → List Int → List Int → Int → ByteArray → Option α
  | 0, _, _, _, _ => none
  | n + 1, l0, l1, i, s => ref_GetVector_3_B  kx kr (ref_GetVector_3_L kx kr n) l0 l1 i s
def ref_GetVector_3_F (L3 : ({β : Type} → (Nat → List Leaf → Option β) → (List Leaf → Option β) → Nat → List Int → List Int → Int → ByteArray → Option β)) {α : Type} (n : Nat) (ls : List Leaf) (kx : Nat → List Leaf → Option α) (kr : List Leaf → Option α) : Option α := un_li ls fun l0 rr => un_li rr fun l1 rr => un_i rr fun i rr => un_s rr fun s rr => un_nil rr (L3 kx kr n l0 l1 i s)
def ref_GetVector_d (L3 : ({β : Type} → (Nat → List Leaf → Option β) → (List Leaf → Option β) → Nat → List Int → List Int → Int → ByteArray → Option β)) (s : ByteArray) : Option (List Leaf) :=
  chk (decide ((0 : Int) = Int.ofNat (0 : Nat)) && true) <|
  L3
    (fun i515 r516 =>
     br (Nat.beq 0 i515)
       (un_li r516 fun x517 r518 =>
        un_li r518 fun x519 r520 =>
        un_nil r520 <|
        chk (decide (Int.ofNat (List.length x517) = Int.ofNat (List.length x517)) && true && true) <|
        some [.li (x517), .li (x519), .b (true)])
       (none))
    (fun r521 =>
     un_li r521 fun x522 r523 =>
     un_li r523 fun x524 r525 =>
     un_b r525 fun x526 r527 =>
     un_nil r527 <|
     chk (decide (Int.ofNat (List.length x522) = Int.ofNat (List.length x522)) && true && true) <|
     some [.li (x522), .li (x524), .b (x526)])
    top ([]) ([]) (0) (s)
def ref_GetVector (s : ByteArray) : Option (List Leaf) := ref_GetVector_d @ref_GetVector_3_L s
def VecAll_11_B  {α : Type} (kx : Nat → List Leaf → Option α) (kr : List Leaf → Option α) (again : List Int → List Int → List Int → List Int → List Int → List ByteArray → List ByteArray → Int → Bool → Int → Int → ByteArray → Int → Option α) (cs0 : List Int) (cs1 : List Int) (states : List Int) (back0 : List Int) (back1 : List Int) (w : List ByteArray) (l : List ByteArray) (t64 : Int) (may : Bool) (cs_o : Int) (cs_n : Int) (b : ByteArray) (t63 : Int) : Option α :=
  br (decide (t64 < t63))
    (chk (decide ((0 : Int) ≤ t64 ∧ t64 < Int.ofNat (List.length l))) <|
     chk (decide ((0 : Int) ≤ t64 ∧ t64 < Int.ofNat (List.length l))) <|
     out (vec_Get (List.getD l (Int.toNat t64) ByteArray.empty)) fun r571 =>
     un_li r571 fun x572 r573 =>
     un_li r573 fun x574 r575 =>
     un_b r575 fun x576 r577 =>
     un_nil r577 <|
     chk (decide ((0 : Int) ≤ t64 ∧ t64 < Int.ofNat (List.length l))) <|
     chk (decide ((0 : Int) ≤ t64 ∧ t64 < Int.ofNat (List.length l))) <|
     chk (decide ((0 : Int) ≤ t64 ∧ t64 < Int.ofNat (List.length w))) <|
     chk (decide ((0 : Int) ≤ t64 ∧ t64 < Int.ofNat (List.length w))) <|
     br (!List.getD l (Int.toNat t64) ByteArray.empty == List.getD w (Int.toNat t64) ByteArray.empty)
       (kr [.li (cs0), .li (cs1), .li (states), .b (false)])
       (br (!x576)
          (kr [.li (cs0), .li (cs1), .li (states), .b (false)])
          (chk (decide (Int.ofNat (List.length back0) = Int.ofNat (List.length back0)) && decide (Int.ofNat (List.length x572) = Int.ofNat (List.length x572)) && decide ((Int.ofNat (List.length back0) + Int.ofNat (List.length x572)) * (↑(nat_lit 16) : Int) ≤ (140737488355328 : Int) ∧ Int.ofNat (List.length back0) + Int.ofNat (List.length x572) ≤ (4611686018427387904 : Int))) <|
           one (addI .i64 t64 1) fun x578 =>
           chk (decide (Int.ofNat (List.length back0) + Int.ofNat (List.length x572) = Int.ofNat (List.length (back0 ++ x572))) && (decide (Int.ofNat (List.length w) = Int.ofNat (List.length w)) && (decide (Int.ofNat (List.length l) = Int.ofNat (List.length l)) && true))) <|
           again (cs0) (cs1) (states) (back0 ++ x572) (back1 ++ x574) (w) (l) (x578) (may) (cs_o) (cs_n) (b) (t63))))
    (chk (decide (Int.ofNat (List.length l) = Int.ofNat (List.length l)) && (decide (Int.ofNat (List.length back0) = Int.ofNat (List.length back0)) && true)) <|
     kx 0 [.li (cs0), .li (cs1), .li (states), .ls (l), .li (back0), .li (back1), .b (may), .i (cs_o), .i (cs_n), .s (b)])
def VecAll_11_L {α : Type} (kx : Nat → List Leaf → Option α) (kr : List Leaf → Option α) : Nat → List Int → List Int → List Int → List Int → List Int → List ByteArray → List ByteArray → Int → Bool → Int → Int → ByteArray → Int → Option α
  | 0, _, _, _, _, _, _, _, _, _, _, _, _, _ => none
  | n + 1, cs0, cs1, states, back0, back1, w, l, t64, may, cs_o, cs_n, b, t63 => VecAll_11_B  kx kr (VecAll_11_L kx kr n) cs0 cs1 states back0 back1 w l t64 may cs_o cs_n b t63
def VecAll_11_F (L11 : ({β : Type} → (Nat → List Leaf → Option β) → (List Leaf → Option β) → Nat → List Int → List Int → List Int → List Int → List Int → List ByteArray → List ByteArray → Int → Bool → Int → Int → ByteArray → Int → Option β)) {α : Type} (n : Nat) (ls : List Leaf) (kx : Nat → List Leaf → Option α) (kr : List Leaf → Option α) : Option α := un_li ls fun cs0 rr => un_li rr fun cs1 rr => un_li rr fun states rr => un_li rr fun back0 rr => un_li rr fun back1 rr => un_ls rr fun w rr => un_ls rr fun l rr => un_i rr fun t64 rr => un_b rr fun may rr => un_i rr fun cs_o rr => un_i rr fun cs_n rr => un_s rr fun b rr => un_i rr fun t63 rr => un_nil rr (L11 kx kr n cs0 cs1 states back0 back1 w l t64 may cs_o cs_n b t63)
def VecAll_24_B  {α : Type} (kx : Nat → List Leaf → Option α) (kr : List Leaf → Option α) (again : List Int → List Int → List Int → List Int → List Int → List ByteArray → Int → Bool → Int → Option α) (cs0 : List Int) (cs1 : List Int) (states : List Int) (c : List Int) (a : List Int) (l : List ByteArray) (t133 : Int) (may : Bool) (t132 : Int) : Option α :=
  br (decide (t133 < t132))
    (chk (decide ((0 : Int) ≤ t133 ∧ t133 < Int.ofNat (List.length a))) <|
     chk (decide ((0 : Int) ≤ t133 ∧ t133 < Int.ofNat (List.length a))) <|
     chk (decide ((0 : Int) ≤ t133 ∧ t133 < Int.ofNat (List.length c))) <|
     chk (decide ((0 : Int) ≤ t133 ∧ t133 < Int.ofNat (List.length c))) <|
     br (List.getD a (Int.toNat t133) 0 != List.getD c (Int.toNat t133) 0)
       (kr [.li (cs0), .li (cs1), .li (states), .b (false)])
       (one (addI .i64 t133 1) fun x676 =>
        chk (decide (Int.ofNat (List.length c) = Int.ofNat (List.length c)) && (decide (Int.ofNat (List.length a) = Int.ofNat (List.length a)) && (decide (Int.ofNat (List.length l) = Int.ofNat (List.length l)) && true))) <|
        again (cs0) (cs1) (states) (c) (a) (l) (x676) (may) (t132)))
    (chk (decide (Int.ofNat (List.length l) = Int.ofNat (List.length l)) && true) <|
     kx 2 [.li (cs0), .li (cs1), .li (states), .ls (l), .b (may)])
def VecAll_24_L {α : Type} (kx : Nat → List Leaf → Option α) (kr : List Leaf → Option α) : Nat → List Int → List Int → List Int → List Int → List Int → List ByteArray → Int → Bool → Int → Option α
  | 0, _, _, _, _, _, _, _, _, _ => none
  | n + 1, cs0, cs1, states, c, a, l, t133, may, t132 => VecAll_24_B  kx kr (VecAll_24_L kx kr n) cs0 cs1 states c a l t133 may t132
def VecAll_24_F (L24 : ({β : Type} → (Nat → List Leaf → Option β) → (List Leaf → Option β) → Nat → List Int → List Int → List Int → List Int → List Int → List ByteArray → Int → Bool → Int → Option β)) {α : Type} (n : Nat) (ls : List Leaf) (kx : Nat → List Leaf → Option α) (kr : List Leaf → Option α) : Option α := un_li ls fun cs0 rr => un_li rr fun cs1 rr => un_li rr fun states rr => un_li rr fun c rr => un_li rr fun a rr => un_ls rr fun l rr => un_i rr fun t133 rr => un_b rr fun may rr => un_i rr fun t132 rr => un_nil rr (L24 kx kr n cs0 cs1 states c a l t133 may t132)
def VecAll_d (L11 : ({β : Type} → (Nat → List Leaf → Option β) → (List Leaf → Option β) → Nat → List Int → List Int → List Int → List Int → List Int → List ByteArray → List ByteArray → Int → Bool → Int → Int → ByteArray → Int → Option β)) (L24 : ({β : Type} → (Nat → List Leaf → Option β) → (List Leaf → Option β) → Nat → List Int → List Int → List Int → List Int → List Int → List ByteArray → Int → Bool → Int → Option β)) (cs0 : List Int) (cs1 : List Int) (states : List Int) (b : ByteArray) : Option (List Leaf) :=
  one (Int.ofNat (List.length cs0)) fun x677 =>
  one (minI x677 600) fun x678 =>
  chk (condSl (rlOf [[Col.int .i64 cs0, Col.int .i64 cs1], [Col.int .i64 states]] (0 : Nat)) Option.none (Option.some x678)) <|
  one (Int.ofNat (List.length states)) fun x679 =>
  one (minI x679 300) fun x680 =>
  chk (condSl (rlOf [[Col.int .i64 cs0, Col.int .i64 cs1], [Col.int .i64 states]] (1 : Nat)) Option.none (Option.some x680)) <|
  out (law1_Text b 40) fun r681 =>
  un_s r681 fun x682 r683 =>
  un_nil r683 <|
  chk (decide (Int.ofNat (nat_lit 0) + x678 ≤ Int.ofNat (List.length cs0))) <|
  chk (decide (x678 = Int.ofNat (List.length (List.take (Int.toNat x678) (List.drop (Int.toNat (Int.ofNat (nat_lit 0))) cs0)))) && true) <|
  out (ref_MayCells (List.take (Int.toNat x678) (List.drop (Int.toNat (Int.ofNat 0)) cs0)) (List.take (Int.toNat x678) (List.drop (Int.toNat (Int.ofNat 0)) cs1))) fun r684 =>
  un_b r684 fun x685 r686 =>
  un_nil r686 <|
  chk (decide (Int.ofNat (nat_lit 0) + x678 ≤ Int.ofNat (List.length cs0))) <|
  chk (decide (x678 = Int.ofNat (List.length (List.take (Int.toNat x678) (List.drop (Int.toNat (Int.ofNat (nat_lit 0))) cs0)))) && true) <|
  out (vec_Put (List.take (Int.toNat x678) (List.drop (Int.toNat (Int.ofNat 0)) cs0)) (List.take (Int.toNat x678) (List.drop (Int.toNat (Int.ofNat 0)) cs1))) fun r687 =>
  un_ls r687 fun x688 r689 =>
  un_nil r689 <|
  chk (decide (Int.ofNat (nat_lit 0) + x678 ≤ Int.ofNat (List.length cs0))) <|
  chk (decide (x678 = Int.ofNat (List.length (List.take (Int.toNat x678) (List.drop (Int.toNat (Int.ofNat (nat_lit 0))) cs0)))) && true) <|
  out (ref_Vector (List.take (Int.toNat x678) (List.drop (Int.toNat (Int.ofNat 0)) cs0)) (List.take (Int.toNat x678) (List.drop (Int.toNat (Int.ofNat 0)) cs1))) fun r690 =>
  un_ls r690 fun x691 r692 =>
  un_nil r692 <|
  chk (decide (Int.ofNat (nat_lit 0) + x678 ≤ Int.ofNat (List.length cs0))) <|
  chk (decide (x678 = Int.ofNat (List.length (List.take (Int.toNat x678) (List.drop (Int.toNat (Int.ofNat (nat_lit 0))) cs0)))) && true) <|
  out (vec_May (List.take (Int.toNat x678) (List.drop (Int.toNat (Int.ofNat 0)) cs0)) (List.take (Int.toNat x678) (List.drop (Int.toNat (Int.ofNat 0)) cs1))) fun r693 =>
  un_b r693 fun x694 r695 =>
  un_nil r695 <|
  br (!x694 == x685)
    (some [.b (false)])
    (one (Int.ofNat (List.length x688)) fun x696 =>
     one (Int.ofNat (List.length x691)) fun x697 =>
     br (x696 != x697)
       (some [.b (false)])
       (chk (decide (Int.ofNat (nat_lit 0) + x680 ≤ Int.ofNat (List.length states))) <|
        chk (decide (x680 = Int.ofNat (List.length (List.take (Int.toNat x680) (List.drop (Int.toNat (Int.ofNat (nat_lit 0))) states)))) && true) <|
        out (vec_Of (List.take (Int.toNat x680) (List.drop (Int.toNat (Int.ofNat 0)) states))) fun r698 =>
        un_li r698 fun x699 r700 =>
        un_li r700 fun x701 r702 =>
        un_nil r702 <|
        chk (decide (Int.ofNat (nat_lit 0) + x680 ≤ Int.ofNat (List.length states))) <|
        chk (decide (x680 = Int.ofNat (List.length (List.take (Int.toNat x680) (List.drop (Int.toNat (Int.ofNat (nat_lit 0))) states)))) && true) <|
        out (ref_Of (List.take (Int.toNat x680) (List.drop (Int.toNat (Int.ofNat 0)) states))) fun r703 =>
        un_li r703 fun x704 r705 =>
        un_li r705 fun x706 r707 =>
        un_nil r707 <|
        chk (decide (Int.ofNat (List.length x699) = Int.ofNat (List.length x699)) && (decide (Int.ofNat (List.length x704) = Int.ofNat (List.length x704)) && true)) <|
        out (law_cells x699 x701 x704 x706) fun r708 =>
        un_b r708 fun x709 r710 =>
        un_nil r710 <|
        br (!x709)
          (some [.b (false)])
          (one (Int.ofNat (List.length x688)) fun x711 =>
           chk (decide ((0 : Int) = Int.ofNat (0 : Nat)) && (decide (Int.ofNat (List.length x691) = Int.ofNat (List.length x691)) && (decide (Int.ofNat (List.length x688) = Int.ofNat (List.length x688)) && true))) <|
           L11
             (fun i712 r713 =>
              br (Nat.beq 0 i712)
                (un_li r713 fun x714 r715 =>
                 un_li r715 fun x716 r717 =>
                 un_li r717 fun x718 r719 =>
                 un_ls r719 fun x720 r721 =>
                 un_li r721 fun x722 r723 =>
                 un_li r723 fun x724 r725 =>
                 un_b r725 fun x726 r727 =>
                 un_i r727 fun x728 r729 =>
                 un_i r729 fun x730 r731 =>
                 un_s r731 fun x732 r733 =>
                 un_nil r733 <|
                 out (vec_Get x732) fun r734 =>
                 un_li r734 fun x735 r736 =>
                 un_li r736 fun x737 r738 =>
                 un_b r738 fun x739 r740 =>
                 un_nil r740 <|
                 out (ref_GetVector x732) fun r741 =>
                 un_li r741 fun x742 r743 =>
                 un_li r743 fun x744 r745 =>
                 un_b r745 fun x746 r747 =>
                 un_nil r747 <|
                 chk (decide (x728 + x730 ≤ Int.ofNat (List.length x714))) <|
                 chk (decide (x730 = Int.ofNat (List.length (List.take (Int.toNat x730) (List.drop (Int.toNat x728) x714)))) && true) <|
                 out (vec_Spread (List.take (Int.toNat x730) (List.drop (Int.toNat x728) x714)) (List.take (Int.toNat x730) (List.drop (Int.toNat x728) x716))) fun r748 =>
                 un_li r748 fun x749 r750 =>
                 un_nil r750 <|
                 chk (decide (x728 + x730 ≤ Int.ofNat (List.length x714))) <|
                 chk (decide (x730 = Int.ofNat (List.length (List.take (Int.toNat x730) (List.drop (Int.toNat x728) x714)))) && true) <|
                 out (ref_Spread (List.take (Int.toNat x730) (List.drop (Int.toNat x728) x714)) (List.take (Int.toNat x730) (List.drop (Int.toNat x728) x716))) fun r751 =>
                 un_li r751 fun x752 r753 =>
                 un_nil r753 <|
                 one (Int.ofNat (List.length x749)) fun x754 =>
                 one (Int.ofNat (List.length x752)) fun x755 =>
                 br (x754 != x755)
                   (some [.b (false)])
                   (br (!x739 == x746)
                      (some [.b (false)])
                      (chk (decide (Int.ofNat (List.length x735) = Int.ofNat (List.length x735)) && (decide (Int.ofNat (List.length x742) = Int.ofNat (List.length x742)) && true)) <|
                       out (law_cells x735 x737 x742 x744) fun r756 =>
                       un_b r756 fun x757 r758 =>
                       un_nil r758 <|
                       br (!x757)
                         (some [.b (false)])
                         (br (x726)
                            (chk (decide (x728 + x730 ≤ Int.ofNat (List.length x714))) <|
                             chk (decide (Int.ofNat (List.length x722) = Int.ofNat (List.length x722)) && (decide (x730 = Int.ofNat (List.length (List.take (Int.toNat x730) (List.drop (Int.toNat x728) x714)))) && true)) <|
                             out (law_cells x722 x724 (List.take (Int.toNat x730) (List.drop (Int.toNat x728) x714)) (List.take (Int.toNat x730) (List.drop (Int.toNat x728) x716))) fun r759 =>
                             un_b r759 fun x760 r761 =>
                             un_nil r761 <|
                             br (!x760)
                               (some [.b (false)])
                               (one (Int.ofNat (List.length x749)) fun x762 =>
                                chk (decide (Int.ofNat (List.length x752) = Int.ofNat (List.length x752)) && (decide (Int.ofNat (List.length x749) = Int.ofNat (List.length x749)) && (decide (Int.ofNat (List.length x720) = Int.ofNat (List.length x720)) && true))) <|
                                L24
                                  (fun i763 r764 =>
                                   br (Nat.beq 2 i763)
                                     (un_li r764 fun x765 r766 =>
                                      un_li r766 fun x767 r768 =>
                                      un_li r768 fun x769 r770 =>
                                      un_ls r770 fun x771 r772 =>
                                      un_b r772 fun x773 r774 =>
                                      un_nil r774 <|
                                      br (x773)
                                        (some [.b (true)])
                                        (one (Int.ofNat (List.length x771)) fun x775 =>
                                         some [.b (x775 == 0)]))
                                     (none))
                                  (fun r776 =>
                                   un_li r776 fun x777 r778 =>
                                   un_li r778 fun x779 r780 =>
                                   un_li r780 fun x781 r782 =>
                                   un_b r782 fun x783 r784 =>
                                   un_nil r784 <|
                                   some [.b (x783)])
                                  top (x714) (x716) (x718) (x752) (x749) (x720) (0) (x726) (x762)))
                            (one (Int.ofNat (List.length x749)) fun x785 =>
                             chk (decide (Int.ofNat (List.length x752) = Int.ofNat (List.length x752)) && (decide (Int.ofNat (List.length x749) = Int.ofNat (List.length x749)) && (decide (Int.ofNat (List.length x720) = Int.ofNat (List.length x720)) && true))) <|
                             L24
                               (fun i786 r787 =>
                                br (Nat.beq 2 i786)
                                  (un_li r787 fun x788 r789 =>
                                   un_li r789 fun x790 r791 =>
                                   un_li r791 fun x792 r793 =>
                                   un_ls r793 fun x794 r795 =>
                                   un_b r795 fun x796 r797 =>
                                   un_nil r797 <|
                                   br (x796)
                                     (some [.b (true)])
                                     (one (Int.ofNat (List.length x794)) fun x798 =>
                                      some [.b (x798 == 0)]))
                                  (none))
                               (fun r799 =>
                                un_li r799 fun x800 r801 =>
                                un_li r801 fun x802 r803 =>
                                un_li r803 fun x804 r805 =>
                                un_b r805 fun x806 r807 =>
                                un_nil r807 <|
                                some [.b (x806)])
                               top (x714) (x716) (x718) (x752) (x749) (x720) (0) (x726) (x785))))))
                (none))
             (fun r808 =>
              un_li r808 fun x809 r810 =>
              un_li r810 fun x811 r812 =>
              un_li r812 fun x813 r814 =>
              un_b r814 fun x815 r816 =>
              un_nil r816 <|
              some [.b (x815)])
             top (cs0) (cs1) (states) ([]) ([]) (x691) (x688) (0) (x685) (Int.ofNat 0) (x678) (x682) (x711))))
def VecAll (cs0 : List Int) (cs1 : List Int) (states : List Int) (b : ByteArray) : Option (List Leaf) := VecAll_d @VecAll_11_L @VecAll_24_L cs0 cs1 states b
end Go.Sx.T

