import Derived.Test.YtabdgalicaifhaaGreatDoorYFixSpec
set_option linter.all false
namespace Go.Sx.T
open Go Go.Sx
def vec_state (s : Int) : Option (List Leaf) :=
  br (s == 0)
    (some [.b (true)])
    (br (s == 1)
       (some [.b (true)])
       (some [.b (s == 3)]))
def vec_May_3_B  {α : Type} (kx : Nat → List Leaf → Option α) (kr : List Leaf → Option α) (again : List Int → List Int → Int → Int → Int → Option α) (cs0 : List Int) (cs1 : List Int) (t8 : Int) (n2 : Int) (t7 : Int) : Option α :=
  br (decide (t8 < t7))
    (chk (decide ((0 : Int) ≤ t8 ∧ t8 < Int.ofNat (List.length cs0))) <|
     chk (decide ((0 : Int) ≤ t8 ∧ t8 < Int.ofNat (List.length cs0))) <|
     out (vec_state (List.getD cs0 (Int.toNat t8) 0)) fun r449 =>
     un_b r449 fun x450 r451 =>
     un_nil r451 <|
     br (!x450)
       (kr [.li (cs0), .li (cs1), .b (false)])
       (br (decide (List.getD cs1 (Int.toNat t8) 0 < 1))
          (kr [.li (cs0), .li (cs1), .b (false)])
          (br (decide (List.getD cs1 (Int.toNat t8) 0 > 64))
             (kr [.li (cs0), .li (cs1), .b (false)])
             (one (addI .i64 n2 (List.getD cs1 (Int.toNat t8) 0)) fun x452 =>
              br (decide (x452 > 1000))
                (kr [.li (cs0), .li (cs1), .b (false)])
                (one (addI .i64 t8 1) fun x453 =>
                 chk (decide (Int.ofNat (List.length cs0) = Int.ofNat (List.length cs0)) && true) <|
                 again (cs0) (cs1) (x453) (x452) (t7))))))
    (kx 0 [.li (cs0), .li (cs1)])
def vec_May_3_L {α : Type} (kx : Nat → List Leaf → Option α) (kr : List Leaf → Option α) : Nat → List Int → List Int → Int → Int → Int → Option α
  | 0, _, _, _, _, _ => none
  | n + 1, cs0, cs1, t8, n2, t7 => vec_May_3_B  kx kr (vec_May_3_L kx kr n) cs0 cs1 t8 n2 t7
def vec_May_3_F (L3 : ({β : Type} → (Nat → List Leaf → Option β) → (List Leaf → Option β) → Nat → List Int → List Int → Int → Int → Int → Option β)) {α : Type} (n : Nat) (ls : List Leaf) (kx : Nat → List Leaf → Option α) (kr : List Leaf → Option α) : Option α := un_li ls fun cs0 rr => un_li rr fun cs1 rr => un_i rr fun t8 rr => un_i rr fun n2 rr => un_i rr fun t7 rr => un_nil rr (L3 kx kr n cs0 cs1 t8 n2 t7)
def vec_May_d (L3 : ({β : Type} → (Nat → List Leaf → Option β) → (List Leaf → Option β) → Nat → List Int → List Int → Int → Int → Int → Option β)) (cs0 : List Int) (cs1 : List Int) : Option (List Leaf) :=
  one (Int.ofNat (List.length cs0)) fun x454 =>
  chk (decide (Int.ofNat (List.length cs0) = Int.ofNat (List.length cs0)) && true) <|
  L3
    (fun i455 r456 =>
     br (Nat.beq 0 i455)
       (un_li r456 fun x457 r458 =>
        un_li r458 fun x459 r460 =>
        un_nil r460 <|
        some [.b (true)])
       (none))
    (fun r461 =>
     un_li r461 fun x462 r463 =>
     un_li r463 fun x464 r465 =>
     un_b r465 fun x466 r467 =>
     un_nil r467 <|
     some [.b (x466)])
    top (cs0) (cs1) (0) (0) (x454)
def vec_May (cs0 : List Int) (cs1 : List Int) : Option (List Leaf) := vec_May_d @vec_May_3_L cs0 cs1
def vec_Repeat_8_B  {α : Type} (kx : Nat → List Leaf → Option α) (kr : List Leaf → Option α) (again : List Int → List Int → Int → Option α) (x : List Int) (newslice : List Int) (n2 : Int) : Option α :=
  one (Int.ofNat (List.length newslice)) fun x479 =>
  br (decide (n2 < x479))
    (chk (condSl (rlOf [[Col.int .i64 x], [Col.int .i64 newslice]] (1 : Nat)) (Option.some n2) Option.none) <|
     chk (condSl (rlOf [[Col.int .i64 x], [Col.int .i64 newslice]] (1 : Nat)) Option.none (Option.some n2)) <|
     chk (rowIn Option.none n2 (Int.ofNat (List.length newslice)) && rowIn (Option.some (offAdd Option.none n2)) (lenSl (rlOf [[Col.int .i64 x], [Col.int .i64 newslice]] (1 : Nat)) (Option.some n2) Option.none) (Int.ofNat (List.length newslice))) <|
     one (addI .i64 n2 (minI (↑(List.length (partL Option.none n2 newslice)) : Int) (lenSl (rlOf [[Col.int .i64 x], [Col.int .i64 newslice]] (1 : Nat)) (Option.some n2) Option.none))) fun x480 =>
     chk (decide (Int.ofNat (List.length newslice) = Int.ofNat (List.length (spliceL (Option.some (offAdd Option.none n2)) (Int.toNat (minI (↑(List.length (partL Option.none n2 newslice)) : Int) (lenSl (rlOf [[Col.int .i64 x], [Col.int .i64 newslice]] (1 : Nat)) (Option.some n2) Option.none))) newslice (partL Option.none n2 newslice)))) && true) <|
     again (x) (spliceL (Option.some (offAdd Option.none n2)) (Int.toNat (minI (↑(List.length (partL Option.none n2 newslice)) : Int) (lenSl (rlOf [[Col.int .i64 x], [Col.int .i64 newslice]] (1 : Nat)) (Option.some n2) Option.none))) newslice (partL Option.none n2 newslice)) (x480))
    (chk (decide (Int.ofNat (List.length newslice) = Int.ofNat (List.length newslice)) && true) <|
     kx 0 [.li (x), .li (newslice)])
def vec_Repeat_8_L {α : Type} (kx : Nat → List Leaf → Option α) (kr : List Leaf → Option α) : Nat → List Int → List Int → Int → Option α
  | 0, _, _, _ => none
  | n + 1, x, newslice, n2 => vec_Repeat_8_B  kx kr (vec_Repeat_8_L kx kr n) x newslice n2
def vec_Repeat_8_F (L8 : ({β : Type} → (Nat → List Leaf → Option β) → (List Leaf → Option β) → Nat → List Int → List Int → Int → Option β)) {α : Type} (n : Nat) (ls : List Leaf) (kx : Nat → List Leaf → Option α) (kr : List Leaf → Option α) : Option α := un_li ls fun x rr => un_li rr fun newslice rr => un_i rr fun n2 rr => un_nil rr (L8 kx kr n x newslice n2)
def vec_Repeat_d (L8 : ({β : Type} → (Nat → List Leaf → Option β) → (List Leaf → Option β) → Nat → List Int → List Int → Int → Option β)) (x : List Int) (count : Int) : Option (List Leaf) :=
  br (decide (count < 0))
    (none)
    (one (Int.ofNat (List.length x)) fun x481 =>
     one (wrapI .u64 x481) fun x482 =>
     one (wrapI .u64 count) fun x483 =>
     out (bits_Mul x482 x483) fun r484 =>
     un_i r484 fun x485 r486 =>
     un_i r486 fun x487 r488 =>
     un_nil r488 <|
     br (decide (x485 > 0))
       (none)
       (br (decide (x487 > 9223372036854775807))
          (none)
          (one (wrapI .i64 x487) fun x489 =>
           chk (decide ((0 : Int) ≤ x489 ∧ x489 ≤ x489 ∧ (↑(nat_lit 8) : Int) * x489 ≤ (140737488355328 : Int) ∧ x489 ≤ (4611686018427387904 : Int))) <|
           chk (rowIn Option.none (Int.ofNat (List.length x)) (Int.ofNat (List.length x)) && rowIn Option.none x489 x489) <|
           chk (decide (x489 = Int.ofNat (List.length (spliceL Option.none (Int.toNat (minI (↑(List.length (partL Option.none (Int.ofNat (List.length x)) x)) : Int) x489)) (List.replicate (Int.toNat x489) (0 : Int)) (partL Option.none (Int.ofNat (List.length x)) x)))) && true) <|
           L8
             (fun i490 r491 =>
              br (Nat.beq 0 i490)
                (un_li r491 fun x492 r493 =>
                 un_li r493 fun x494 r495 =>
                 un_nil r495 <|
                 chk (decide (Int.ofNat (List.length x494) = Int.ofNat (List.length x494)) && true) <|
                 some [.li (x494)])
                (none))
             (fun r496 =>
              un_nil r496 <|
              none)
             top (x) (spliceL Option.none (Int.toNat (minI (↑(List.length (partL Option.none (Int.ofNat (List.length x)) x)) : Int) x489)) (List.replicate (Int.toNat x489) 0) (partL Option.none (Int.ofNat (List.length x)) x)) (minI (↑(List.length (partL Option.none (Int.ofNat (List.length x)) x)) : Int) x489))))
def vec_Repeat (x : List Int) (count : Int) : Option (List Leaf) := vec_Repeat_d @vec_Repeat_8_L x count
def vec_Spread_5_B  {α : Type} (kx : Nat → List Leaf → Option α) (kr : List Leaf → Option α) (again : List Int → List Int → List Int → Int → Int → Option α) (cs0 : List Int) (cs1 : List Int) (out2 : List Int) (t11 : Int) (t10 : Int) : Option α :=
  br (decide (t11 < t10))
    (chk (decide ((0 : Int) ≤ t11 ∧ t11 < Int.ofNat (List.length cs0))) <|
     chk (decide ((0 : Int) ≤ t11 ∧ t11 < Int.ofNat (List.length cs0))) <|
     chk (decide ((↑(1 : Nat) : Int) = Int.ofNat (List.length [List.getD cs0 (Int.toNat t11) (0 : Int)])) && true) <|
     out (vec_Repeat [List.getD cs0 (Int.toNat t11) (0 : Int)] (List.getD cs1 (Int.toNat t11) (0 : Int))) fun r505 =>
     un_li r505 fun x506 r507 =>
     un_nil r507 <|
     chk (decide (Int.ofNat (List.length out2) = Int.ofNat (List.length out2)) && decide (Int.ofNat (List.length x506) = Int.ofNat (List.length x506)) && decide ((Int.ofNat (List.length out2) + Int.ofNat (List.length x506)) * (↑(nat_lit 8) : Int) ≤ (140737488355328 : Int) ∧ Int.ofNat (List.length out2) + Int.ofNat (List.length x506) ≤ (4611686018427387904 : Int))) <|
     one (addI .i64 t11 1) fun x508 =>
     chk (decide (Int.ofNat (List.length out2) + Int.ofNat (List.length x506) = Int.ofNat (List.length (out2 ++ x506))) && (decide (Int.ofNat (List.length cs0) = Int.ofNat (List.length cs0)) && true)) <|
     again (cs0) (cs1) (out2 ++ x506) (x508) (t10))
    (chk (decide (Int.ofNat (List.length out2) = Int.ofNat (List.length out2)) && true) <|
     kx 0 [.li (cs0), .li (cs1), .li (out2)])
def vec_Spread_5_L {α : Type} (kx : Nat → List Leaf → Option α) (kr : List Leaf → Option α) : Nat → List Int → List Int → List Int → Int → Int → Option α
  | 0, _, _, _, _, _ => none
  | n + 1, cs0, cs1, out2, t11, t10 => vec_Spread_5_B  kx kr (vec_Spread_5_L kx kr n) cs0 cs1 out2 t11 t10
def vec_Spread_5_F (L5 : ({β : Type} → (Nat → List Leaf → Option β) → (List Leaf → Option β) → Nat → List Int → List Int → List Int → Int → Int → Option β)) {α : Type} (n : Nat) (ls : List Leaf) (kx : Nat → List Leaf → Option α) (kr : List Leaf → Option α) : Option α := un_li ls fun cs0 rr => un_li rr fun cs1 rr => un_li rr fun out2 rr => un_i rr fun t11 rr => un_i rr fun t10 rr => un_nil rr (L5 kx kr n cs0 cs1 out2 t11 t10)
def vec_Spread_d (L5 : ({β : Type} → (Nat → List Leaf → Option β) → (List Leaf → Option β) → Nat → List Int → List Int → List Int → Int → Int → Option β)) (cs0 : List Int) (cs1 : List Int) : Option (List Leaf) :=
  chk (decide (Int.ofNat (List.length cs0) = Int.ofNat (List.length cs0)) && true) <|
  out (vec_May cs0 cs1) fun r509 =>
  un_b r509 fun x510 r511 =>
  un_nil r511 <|
  br (!x510)
    (chk (decide ((0 : Int) = Int.ofNat (0 : Nat)) && true) <|
     some [.li ([])])
    (one (Int.ofNat (List.length cs0)) fun x512 =>
     chk (decide ((0 : Int) = Int.ofNat (0 : Nat)) && (decide (Int.ofNat (List.length cs0) = Int.ofNat (List.length cs0)) && true)) <|
     L5
       (fun i513 r514 =>
        br (Nat.beq 0 i513)
          (un_li r514 fun x515 r516 =>
           un_li r516 fun x517 r518 =>
           un_li r518 fun x519 r520 =>
           un_nil r520 <|
           chk (decide (Int.ofNat (List.length x519) = Int.ofNat (List.length x519)) && true) <|
           some [.li (x519)])
          (none))
       (fun r521 =>
        un_nil r521 <|
        none)
       top (cs0) (cs1) ([]) (0) (x512))
def vec_Spread (cs0 : List Int) (cs1 : List Int) : Option (List Leaf) := vec_Spread_d @vec_Spread_5_L cs0 cs1
def vec_Of_3_B  {α : Type} (kx : Nat → List Leaf → Option α) (kr : List Leaf → Option α) (again : List Int → List Int → List Int → Int → Int → Option α) (states : List Int) (out0 : List Int) (out1 : List Int) (t9 : Int) (t8 : Int) : Option α :=
  br (decide (t9 < t8))
    (chk (decide ((0 : Int) ≤ t9 ∧ t9 < Int.ofNat (List.length states))) <|
     chk (decide ((0 : Int) ≤ t9 ∧ t9 < Int.ofNat (List.length states))) <|
     out (vec_state (List.getD states (Int.toNat t9) 0)) fun r533 =>
     un_b r533 fun x534 r535 =>
     un_nil r535 <|
     br (!x534)
       (chk (decide ((0 : Int) = Int.ofNat (0 : Nat)) && true) <|
        kr [.li (states), .li ([]), .li ([])])
       (one (Int.ofNat (List.length out0)) fun x536 =>
        one (subI .i64 x536 1) fun x537 =>
        br (decide (x537 ≥ 0))
          (chk (decide ((0 : Int) ≤ x537 ∧ x537 < Int.ofNat (List.length out0))) <|
           chk (decide ((0 : Int) ≤ x537 ∧ x537 < Int.ofNat (List.length out0))) <|
           br (List.getD out0 (Int.toNat x537) 0 == List.getD states (Int.toNat t9) 0)
             (chk (decide ((0 : Int) ≤ x537 ∧ x537 < Int.ofNat (List.length out0))) <|
              chk (decide ((0 : Int) ≤ x537 ∧ x537 < Int.ofNat (List.length out0))) <|
              br (decide (List.getD out1 (Int.toNat x537) 0 < 64))
                (chk (decide ((0 : Int) ≤ x537 ∧ x537 < Int.ofNat (List.length out0))) <|
                 chk (decide ((0 : Int) ≤ x537 ∧ x537 < Int.ofNat (List.length out0))) <|
                 one (addI .i64 (List.getD out1 (Int.toNat x537) 0) 1) fun x538 =>
                 chk (decide ((0 : Int) ≤ x537 ∧ x537 < Int.ofNat (List.length out0))) <|
                 chk (decide ((0 : Int) ≤ x537 ∧ x537 < Int.ofNat (List.length out0))) <|
                 one (addI .i64 t9 1) fun x539 =>
                 chk (decide (Int.ofNat (List.length out0) = Int.ofNat (List.length out0)) && (decide (Int.ofNat (List.length states) = Int.ofNat (List.length states)) && true)) <|
                 again (states) (out0) (List.set out1 (Int.toNat x537) x538) (x539) (t8))
                (chk (decide (Int.ofNat (List.length out0) = Int.ofNat (List.length out0)) && true && decide ((Int.ofNat (List.length out0) + (↑(1 : Nat) : Int)) * (↑(nat_lit 16) : Int) ≤ (140737488355328 : Int) ∧ Int.ofNat (List.length out0) + (↑(1 : Nat) : Int) ≤ (4611686018427387904 : Int))) <|
                 one (addI .i64 t9 1) fun x540 =>
                 chk (decide (Int.ofNat (List.length out0) + (↑(1 : Nat) : Int) = Int.ofNat (List.length (out0 ++ [List.getD states (Int.toNat t9) (0 : Int)]))) && (decide (Int.ofNat (List.length states) = Int.ofNat (List.length states)) && true)) <|
                 again (states) (out0 ++ [List.getD states (Int.toNat t9) (0 : Int)]) (out1 ++ [(1 : Int)]) (x540) (t8)))
             (chk (decide (Int.ofNat (List.length out0) = Int.ofNat (List.length out0)) && true && decide ((Int.ofNat (List.length out0) + (↑(1 : Nat) : Int)) * (↑(nat_lit 16) : Int) ≤ (140737488355328 : Int) ∧ Int.ofNat (List.length out0) + (↑(1 : Nat) : Int) ≤ (4611686018427387904 : Int))) <|
              one (addI .i64 t9 1) fun x541 =>
              chk (decide (Int.ofNat (List.length out0) + (↑(1 : Nat) : Int) = Int.ofNat (List.length (out0 ++ [List.getD states (Int.toNat t9) (0 : Int)]))) && (decide (Int.ofNat (List.length states) = Int.ofNat (List.length states)) && true)) <|
              again (states) (out0 ++ [List.getD states (Int.toNat t9) (0 : Int)]) (out1 ++ [(1 : Int)]) (x541) (t8)))
          (chk (decide (Int.ofNat (List.length out0) = Int.ofNat (List.length out0)) && true && decide ((Int.ofNat (List.length out0) + (↑(1 : Nat) : Int)) * (↑(nat_lit 16) : Int) ≤ (140737488355328 : Int) ∧ Int.ofNat (List.length out0) + (↑(1 : Nat) : Int) ≤ (4611686018427387904 : Int))) <|
           one (addI .i64 t9 1) fun x542 =>
           chk (decide (Int.ofNat (List.length out0) + (↑(1 : Nat) : Int) = Int.ofNat (List.length (out0 ++ [List.getD states (Int.toNat t9) (0 : Int)]))) && (decide (Int.ofNat (List.length states) = Int.ofNat (List.length states)) && true)) <|
           again (states) (out0 ++ [List.getD states (Int.toNat t9) (0 : Int)]) (out1 ++ [(1 : Int)]) (x542) (t8))))
    (chk (decide (Int.ofNat (List.length out0) = Int.ofNat (List.length out0)) && true) <|
     kx 0 [.li (states), .li (out0), .li (out1)])
def vec_Of_3_L {α : Type} (kx : Nat → List Leaf → Option α) (kr : List Leaf → Option α) : Nat → List Int → List Int → List Int → Int → Int → Option α
  | 0, _, _, _, _, _ => none
  | n + 1, states, out0, out1, t9, t8 => vec_Of_3_B  kx kr (vec_Of_3_L kx kr n) states out0 out1 t9 t8
def vec_Of_3_F (L3 : ({β : Type} → (Nat → List Leaf → Option β) → (List Leaf → Option β) → Nat → List Int → List Int → List Int → Int → Int → Option β)) {α : Type} (n : Nat) (ls : List Leaf) (kx : Nat → List Leaf → Option α) (kr : List Leaf → Option α) : Option α := un_li ls fun states rr => un_li rr fun out0 rr => un_li rr fun out1 rr => un_i rr fun t9 rr => un_i rr fun t8 rr => un_nil rr (L3 kx kr n states out0 out1 t9 t8)
def vec_Of_d (L3 : ({β : Type} → (Nat → List Leaf → Option β) → (List Leaf → Option β) → Nat → List Int → List Int → List Int → Int → Int → Option β)) (states : List Int) : Option (List Leaf) :=
  one (Int.ofNat (List.length states)) fun x543 =>
  chk (decide ((0 : Int) = Int.ofNat (0 : Nat)) && (decide (Int.ofNat (List.length states) = Int.ofNat (List.length states)) && true)) <|
  L3
    (fun i544 r545 =>
     br (Nat.beq 0 i544)
       (un_li r545 fun x546 r547 =>
        un_li r547 fun x548 r549 =>
        un_li r549 fun x550 r551 =>
        un_nil r551 <|
        chk (decide (Int.ofNat (List.length x548) = Int.ofNat (List.length x548)) && true) <|
        some [.li (x548), .li (x550)])
       (none))
    (fun r552 =>
     un_li r552 fun x553 r554 =>
     un_li r554 fun x555 r556 =>
     un_li r556 fun x557 r558 =>
     un_nil r558 <|
     chk (decide (Int.ofNat (List.length x555) = Int.ofNat (List.length x555)) && true) <|
     some [.li (x555), .li (x557)])
    top (states) ([]) ([]) (0) (x543)
def vec_Of (states : List Int) : Option (List Leaf) := vec_Of_d @vec_Of_3_L states
end Go.Sx.T

