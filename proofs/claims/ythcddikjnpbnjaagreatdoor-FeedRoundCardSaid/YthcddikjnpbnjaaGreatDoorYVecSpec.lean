import Derived.Test.YthcddikjnpbnjaaGreatDoorYFixSpec
set_option linter.all false
namespace Go.Sx.T
open Go Go.Sx
def vec_state (s : Int) : Option (List Leaf) :=
  br (s == 0)
    (some [.b (true)])
    (br (s == 1)
       (some [.b (true)])
       (some [.b (s == 3)]))
def vec_May_3_B  {α : Type} (kx : Nat → List Leaf → Option α) (kr : List Leaf → Option α) (again : List Int → List Int → Int → Int → Int → Option α) (cs0 : List Int) (cs1 : List Int) (t8 : Int) (n2 : Int) (t7 : Int) : Option α :=
  br (decide (t8 < t7))
    (chk (decide ((0 : Int) ≤ t8 ∧ t8 < Int.ofNat (List.length cs0))) <|
     chk (decide ((0 : Int) ≤ t8 ∧ t8 < Int.ofNat (List.length cs0))) <|
     out (vec_state (List.getD cs0 (Int.toNat t8) 0)) fun r2692 =>
     un_b r2692 fun x2693 r2694 =>
     un_nil r2694 <|
     br (!x2693)
       (kr [.li (cs0), .li (cs1), .b (false)])
       (br (decide (List.getD cs1 (Int.toNat t8) 0 < 1))
          (kr [.li (cs0), .li (cs1), .b (false)])
          (br (decide (List.getD cs1 (Int.toNat t8) 0 > 64))
             (kr [.li (cs0), .li (cs1), .b (false)])
             (one (addI .i64 n2 (List.getD cs1 (Int.toNat t8) 0)) fun x2695 =>
              br (decide (x2695 > 1000))
                (kr [.li (cs0), .li (cs1), .b (false)])
                (one (addI .i64 t8 1) fun x2696 =>
                 chk (decide (Int.ofNat (List.length cs0) = Int.ofNat (List.length cs0)) && true) <|
                 again (cs0) (cs1) (x2696) (x2695) (t7))))))
    (kx 0 [.li (cs0), .li (cs1)])
def vec_May_3_L {α : Type} (kx : Nat → List Leaf → Option α) (kr : List Leaf → Option α) : Nat → List Int → List Int → Int → Int → Int → Option α
  | 0, _, _, _, _, _ => none
  | n + 1, cs0, cs1, t8, n2, t7 => vec_May_3_B  kx kr (vec_May_3_L kx kr n) cs0 cs1 t8 n2 t7
def vec_May_3_F (L3 : ({β : Type} → (Nat → List Leaf → Option β) → (List Leaf → Option β) → Nat → List Int → List Int → Int → Int → Int → Option β)) {α : Type} (n : Nat) (ls : List Leaf) (kx : Nat → List Leaf → Option α) (kr : List Leaf → Option α) : Option α := un_li ls fun cs0 rr => un_li rr fun cs1 rr => un_i rr fun t8 rr => un_i rr fun n2 rr => un_i rr fun t7 rr => un_nil rr (L3 kx kr n cs0 cs1 t8 n2 t7)
def vec_May_d (L3 : ({β : Type} → (Nat → List Leaf → Option β) → (List Leaf → Option β) → Nat → List Int → List Int → Int → Int → Int → Option β)) (cs0 : List Int) (cs1 : List Int) : Option (List Leaf) :=
  one (Int.ofNat (List.length cs0)) fun x2697 =>
  chk (decide (Int.ofNat (List.length cs0) = Int.ofNat (List.length cs0)) && true) <|
  L3
    (fun i2698 r2699 =>
     br (Nat.beq 0 i2698)
       (un_li r2699 fun x2700 r2701 =>
        un_li r2701 fun x2702 r2703 =>
        un_nil r2703 <|
        some [.b (true)])
       (none))
    (fun r2704 =>
     un_li r2704 fun x2705 r2706 =>
     un_li r2706 fun x2707 r2708 =>
     un_b r2708 fun x2709 r2710 =>
     un_nil r2710 <|
     some [.b (x2709)])
    top (cs0) (cs1) (0) (0) (x2697)
def vec_May (cs0 : List Int) (cs1 : List Int) : Option (List Leaf) := vec_May_d @vec_May_3_L cs0 cs1
def vec_Repeat_8_B  {α : Type} (kx : Nat → List Leaf → Option α) (kr : List Leaf → Option α) (again : List Int → List Int → Int → Option α) (x : List Int) (newslice : List Int) (n2 : Int) : Option α :=
  one (Int.ofNat (List.length newslice)) fun x2724 =>
  br (decide (n2 < x2724))
    (chk (condSl (rlOf [[Col.int .i64 x], [Col.int .i64 newslice]] (1 : Nat)) (Option.some n2) Option.none) <|
     chk (condSl (rlOf [[Col.int .i64 x], [Col.int .i64 newslice]] (1 : Nat)) Option.none (Option.some n2)) <|
     chk (rowIn Option.none n2 (Int.ofNat (List.length newslice)) && rowIn (Option.some (offAdd Option.none n2)) (lenSl (rlOf [[Col.int .i64 x], [Col.int .i64 newslice]] (1 : Nat)) (Option.some n2) Option.none) (Int.ofNat (List.length newslice))) <|
     one (addI .i64 n2 (minI (↑(List.length (partL Option.none n2 newslice)) : Int) (lenSl (rlOf [[Col.int .i64 x], [Col.int .i64 newslice]] (1 : Nat)) (Option.some n2) Option.none))) fun x2725 =>
     chk (decide (Int.ofNat (List.length newslice) = Int.ofNat (List.length (spliceL (Option.some (offAdd Option.none n2)) (Int.toNat (minI (↑(List.length (partL Option.none n2 newslice)) : Int) (lenSl (rlOf [[Col.int .i64 x], [Col.int .i64 newslice]] (1 : Nat)) (Option.some n2) Option.none))) newslice (partL Option.none n2 newslice)))) && true) <|
     again (x) (spliceL (Option.some (offAdd Option.none n2)) (Int.toNat (minI (↑(List.length (partL Option.none n2 newslice)) : Int) (lenSl (rlOf [[Col.int .i64 x], [Col.int .i64 newslice]] (1 : Nat)) (Option.some n2) Option.none))) newslice (partL Option.none n2 newslice)) (x2725))
    (chk (decide (Int.ofNat (List.length newslice) = Int.ofNat (List.length newslice)) && true) <|
     kx 0 [.li (x), .li (newslice)])
def vec_Repeat_8_L {α : Type} (kx : Nat → List Leaf → Option α) (kr : List Leaf → Option α) : Nat → List Int → List Int → Int → Option α
  | 0, _, _, _ => none
  | n + 1, x, newslice, n2 => vec_Repeat_8_B  kx kr (vec_Repeat_8_L kx kr n) x newslice n2
def vec_Repeat_8_F (L8 : ({β : Type} → (Nat → List Leaf → Option β) → (List Leaf → Option β) → Nat → List Int → List Int → Int → Option β)) {α : Type} (n : Nat) (ls : List Leaf) (kx : Nat → List Leaf → Option α) (kr : List Leaf → Option α) : Option α := un_li ls fun x rr => un_li rr fun newslice rr => un_i rr fun n2 rr => un_nil rr (L8 kx kr n x newslice n2)
def vec_Repeat_d (L8 : ({β : Type} → (Nat → List Leaf → Option β) → (List Leaf → Option β) → Nat → List Int → List Int → Int → Option β)) (x : List Int) (count : Int) : Option (List Leaf) :=
  br (decide (count < 0))
    (none)
    (one (Int.ofNat (List.length x)) fun x2726 =>
     one (wrapI .u64 x2726) fun x2727 =>
     one (wrapI .u64 count) fun x2728 =>
     out (bits_Mul x2727 x2728) fun r2729 =>
     un_i r2729 fun x2730 r2731 =>
     un_i r2731 fun x2732 r2733 =>
     un_nil r2733 <|
     one (x2730) fun x2734 =>
     one (x2732) fun x2735 =>
     br (decide (x2734 > 0))
       (none)
       (br (decide (x2735 > 9223372036854775807))
          (none)
          (one (wrapI .i64 x2735) fun x2736 =>
           chk (decide ((0 : Int) ≤ x2736 ∧ x2736 ≤ x2736 ∧ (↑(nat_lit 8) : Int) * x2736 ≤ (140737488355328 : Int) ∧ x2736 ≤ (4611686018427387904 : Int))) <|
           chk (rowIn Option.none (Int.ofNat (List.length x)) (Int.ofNat (List.length x)) && rowIn Option.none x2736 x2736) <|
           chk (decide (x2736 = Int.ofNat (List.length (spliceL Option.none (Int.toNat (minI (↑(List.length (partL Option.none (Int.ofNat (List.length x)) x)) : Int) x2736)) (List.replicate (Int.toNat x2736) (0 : Int)) (partL Option.none (Int.ofNat (List.length x)) x)))) && true) <|
           L8
             (fun i2737 r2738 =>
              br (Nat.beq 0 i2737)
                (un_li r2738 fun x2739 r2740 =>
                 un_li r2740 fun x2741 r2742 =>
                 un_nil r2742 <|
                 chk (decide (Int.ofNat (List.length x2741) = Int.ofNat (List.length x2741)) && true) <|
                 some [.li (x2741)])
                (none))
             (fun r2743 =>
              un_nil r2743 <|
              none)
             top (x) (spliceL Option.none (Int.toNat (minI (↑(List.length (partL Option.none (Int.ofNat (List.length x)) x)) : Int) x2736)) (List.replicate (Int.toNat x2736) 0) (partL Option.none (Int.ofNat (List.length x)) x)) (minI (↑(List.length (partL Option.none (Int.ofNat (List.length x)) x)) : Int) x2736))))
def vec_Repeat (x : List Int) (count : Int) : Option (List Leaf) := vec_Repeat_d @vec_Repeat_8_L x count
def vec_Spread_5_B  {α : Type} (kx : Nat → List Leaf → Option α) (kr : List Leaf → Option α) (again : List Int → List Int → List Int → Int → Int → Option α) (cs0 : List Int) (cs1 : List Int) (out2 : List Int) (t11 : Int) (t10 : Int) : Option α :=
  br (decide (t11 < t10))
    (chk (decide ((0 : Int) ≤ t11 ∧ t11 < Int.ofNat (List.length cs0))) <|
     chk (decide ((0 : Int) ≤ t11 ∧ t11 < Int.ofNat (List.length cs0))) <|
     chk (decide ((↑(1 : Nat) : Int) = Int.ofNat (List.length [List.getD cs0 (Int.toNat t11) (0 : Int)])) && true) <|
     out (vec_Repeat [List.getD cs0 (Int.toNat t11) (0 : Int)] (List.getD cs1 (Int.toNat t11) (0 : Int))) fun r2752 =>
     un_li r2752 fun x2753 r2754 =>
     un_nil r2754 <|
     chk (decide (Int.ofNat (List.length out2) = Int.ofNat (List.length out2)) && decide (Int.ofNat (List.length x2753) = Int.ofNat (List.length x2753)) && decide ((Int.ofNat (List.length out2) + Int.ofNat (List.length x2753)) * (↑(nat_lit 8) : Int) ≤ (140737488355328 : Int) ∧ Int.ofNat (List.length out2) + Int.ofNat (List.length x2753) ≤ (4611686018427387904 : Int))) <|
     one (addI .i64 t11 1) fun x2755 =>
     chk (decide (Int.ofNat (List.length out2) + Int.ofNat (List.length x2753) = Int.ofNat (List.length (out2 ++ x2753))) && (decide (Int.ofNat (List.length cs0) = Int.ofNat (List.length cs0)) && true)) <|
     again (cs0) (cs1) (out2 ++ x2753) (x2755) (t10))
    (chk (decide (Int.ofNat (List.length out2) = Int.ofNat (List.length out2)) && true) <|
     kx 0 [.li (cs0), .li (cs1), .li (out2)])
def vec_Spread_5_L {α : Type} (kx : Nat → List Leaf → Option α) (kr : List Leaf → Option α) : Nat → List Int → List Int → List Int → Int → Int → Option α
  | 0, _, _, _, _, _ => none
  | n + 1, cs0, cs1, out2, t11, t10 => vec_Spread_5_B  kx kr (vec_Spread_5_L kx kr n) cs0 cs1 out2 t11 t10
def vec_Spread_5_F (L5 : ({β : Type} → (Nat → List Leaf → Option β) → (List Leaf → Option β) → Nat → List Int → List Int → List Int → Int → Int → Option β)) {α : Type} (n : Nat) (ls : List Leaf) (kx : Nat → List Leaf → Option α) (kr : List Leaf → Option α) : Option α := un_li ls fun cs0 rr => un_li rr fun cs1 rr => un_li rr fun out2 rr => un_i rr fun t11 rr => un_i rr fun t10 rr => un_nil rr (L5 kx kr n cs0 cs1 out2 t11 t10)
def vec_Spread_d (L5 : ({β : Type} → (Nat → List Leaf → Option β) → (List Leaf → Option β) → Nat → List Int → List Int → List Int → Int → Int → Option β)) (cs0 : List Int) (cs1 : List Int) : Option (List Leaf) :=
  chk (decide (Int.ofNat (List.length cs0) = Int.ofNat (List.length cs0)) && true) <|
  out (vec_May cs0 cs1) fun r2756 =>
  un_b r2756 fun x2757 r2758 =>
  un_nil r2758 <|
  br (!x2757)
    (chk (decide ((0 : Int) = Int.ofNat (0 : Nat)) && true) <|
     some [.li ([])])
    (one (Int.ofNat (List.length cs0)) fun x2759 =>
     chk (decide ((0 : Int) = Int.ofNat (0 : Nat)) && (decide (Int.ofNat (List.length cs0) = Int.ofNat (List.length cs0)) && true)) <|
     L5
       (fun i2760 r2761 =>
        br (Nat.beq 0 i2760)
          (un_li r2761 fun x2762 r2763 =>
           un_li r2763 fun x2764 r2765 =>
           un_li r2765 fun x2766 r2767 =>
           un_nil r2767 <|
           chk (decide (Int.ofNat (List.length x2766) = Int.ofNat (List.length x2766)) && true) <|
           some [.li (x2766)])
          (none))
       (fun r2768 =>
        un_nil r2768 <|
        none)
       top (cs0) (cs1) ([]) (0) (x2759))
def vec_Spread (cs0 : List Int) (cs1 : List Int) : Option (List Leaf) := vec_Spread_d @vec_Spread_5_L cs0 cs1
def vec_Of_3_B  {α : Type} (kx : Nat → List Leaf → Option α) (kr : List Leaf → Option α) (again : List Int → List Int → List Int → Int → Int → Option α) (states : List Int) (out0 : List Int) (out1 : List Int) (t9 : Int) (t8 : Int) : Option α :=
  br (decide (t9 < t8))
    (chk (decide ((0 : Int) ≤ t9 ∧ t9 < Int.ofNat (List.length states))) <|
     chk (decide ((0 : Int) ≤ t9 ∧ t9 < Int.ofNat (List.length states))) <|
     out (vec_state (List.getD states (Int.toNat t9) 0)) fun r2780 =>
     un_b r2780 fun x2781 r2782 =>
     un_nil r2782 <|
     br (!x2781)
       (chk (decide ((0 : Int) = Int.ofNat (0 : Nat)) && true) <|
        kr [.li (states), .li ([]), .li ([])])
       (one (Int.ofNat (List.length out0)) fun x2783 =>
        one (subI .i64 x2783 1) fun x2784 =>
        br (decide (x2784 ≥ 0))
          (chk (decide ((0 : Int) ≤ x2784 ∧ x2784 < Int.ofNat (List.length out0))) <|
           chk (decide ((0 : Int) ≤ x2784 ∧ x2784 < Int.ofNat (List.length out0))) <|
           br (List.getD out0 (Int.toNat x2784) 0 == List.getD states (Int.toNat t9) 0)
             (chk (decide ((0 : Int) ≤ x2784 ∧ x2784 < Int.ofNat (List.length out0))) <|
              chk (decide ((0 : Int) ≤ x2784 ∧ x2784 < Int.ofNat (List.length out0))) <|
              br (decide (List.getD out1 (Int.toNat x2784) 0 < 64))
                (chk (decide ((0 : Int) ≤ x2784 ∧ x2784 < Int.ofNat (List.length out0))) <|
                 chk (decide ((0 : Int) ≤ x2784 ∧ x2784 < Int.ofNat (List.length out0))) <|
                 one (addI .i64 (List.getD out1 (Int.toNat x2784) 0) 1) fun x2785 =>
                 chk (decide ((0 : Int) ≤ x2784 ∧ x2784 < Int.ofNat (List.length out0))) <|
                 chk (decide ((0 : Int) ≤ x2784 ∧ x2784 < Int.ofNat (List.length out0))) <|
                 one (addI .i64 t9 1) fun x2786 =>
                 chk (decide (Int.ofNat (List.length out0) = Int.ofNat (List.length out0)) && (decide (Int.ofNat (List.length states) = Int.ofNat (List.length states)) && true)) <|
                 again (states) (out0) (List.set out1 (Int.toNat x2784) x2785) (x2786) (t8))
                (chk (decide (Int.ofNat (List.length out0) = Int.ofNat (List.length out0)) && true && decide ((Int.ofNat (List.length out0) + (↑(1 : Nat) : Int)) * (↑(nat_lit 16) : Int) ≤ (140737488355328 : Int) ∧ Int.ofNat (List.length out0) + (↑(1 : Nat) : Int) ≤ (4611686018427387904 : Int))) <|
                 one (addI .i64 t9 1) fun x2787 =>
                 chk (decide (Int.ofNat (List.length out0) + (↑(1 : Nat) : Int) = Int.ofNat (List.length (out0 ++ [List.getD states (Int.toNat t9) (0 : Int)]))) && (decide (Int.ofNat (List.length states) = Int.ofNat (List.length states)) && true)) <|
                 again (states) (out0 ++ [List.getD states (Int.toNat t9) (0 : Int)]) (out1 ++ [(1 : Int)]) (x2787) (t8)))
             (chk (decide (Int.ofNat (List.length out0) = Int.ofNat (List.length out0)) && true && decide ((Int.ofNat (List.length out0) + (↑(1 : Nat) : Int)) * (↑(nat_lit 16) : Int) ≤ (140737488355328 : Int) ∧ Int.ofNat (List.length out0) + (↑(1 : Nat) : Int) ≤ (4611686018427387904 : Int))) <|
              one (addI .i64 t9 1) fun x2788 =>
              chk (decide (Int.ofNat (List.length out0) + (↑(1 : Nat) : Int) = Int.ofNat (List.length (out0 ++ [List.getD states (Int.toNat t9) (0 : Int)]))) && (decide (Int.ofNat (List.length states) = Int.ofNat (List.length states)) && true)) <|
              again (states) (out0 ++ [List.getD states (Int.toNat t9) (0 : Int)]) (out1 ++ [(1 : Int)]) (x2788) (t8)))
          (chk (decide (Int.ofNat (List.length out0) = Int.ofNat (List.length out0)) && true && decide ((Int.ofNat (List.length out0) + (↑(1 : Nat) : Int)) * (↑(nat_lit 16) : Int) ≤ (140737488355328 : Int) ∧ Int.ofNat (List.length out0) + (↑(1 : Nat) : Int) ≤ (4611686018427387904 : Int))) <|
           one (addI .i64 t9 1) fun x2789 =>
           chk (decide (Int.ofNat (List.length out0) + (↑(1 : Nat) : Int) = Int.ofNat (List.length (out0 ++ [List.getD states (Int.toNat t9) (0 : Int)]))) && (decide (Int.ofNat (List.length states) = Int.ofNat (List.length states)) && true)) <|
           again (states) (out0 ++ [List.getD states (Int.toNat t9) (0 : Int)]) (out1 ++ [(1 : Int)]) (x2789) (t8))))
    (chk (decide (Int.ofNat (List.length out0) = Int.ofNat (List.length out0)) && true) <|
     kx 0 [.li (states), .li (out0), .li (out1)])
def vec_Of_3_L {α : Type} (kx : Nat → List Leaf → Option α) (kr : List Leaf → Option α) : Nat → List Int → List Int → List Int → Int → Int → Option α
  | 0, _, _, _, _, _ => none
  | n + 1, states, out0, out1, t9, t8 => vec_Of_3_B  kx kr (vec_Of_3_L kx kr n) states out0 out1 t9 t8
def vec_Of_3_F (L3 : ({β : Type} → (Nat → List Leaf → Option β) → (List Leaf → Option β) → Nat → List Int → List Int → List Int → Int → Int → Option β)) {α : Type} (n : Nat) (ls : List Leaf) (kx : Nat → List Leaf → Option α) (kr : List Leaf → Option α) : Option α := un_li ls fun states rr => un_li rr fun out0 rr => un_li rr fun out1 rr => un_i rr fun t9 rr => un_i rr fun t8 rr => un_nil rr (L3 kx kr n states out0 out1 t9 t8)
def vec_Of_d (L3 : ({β : Type} → (Nat → List Leaf → Option β) → (List Leaf → Option β) → Nat → List Int → List Int → List Int → Int → Int → Option β)) (states : List Int) : Option (List Leaf) :=
  one (Int.ofNat (List.length states)) fun x2790 =>
  chk (decide ((0 : Int) = Int.ofNat (0 : Nat)) && (decide (Int.ofNat (List.length states) = Int.ofNat (List.length states)) && true)) <|
  L3
    (fun i2791 r2792 =>
     br (Nat.beq 0 i2791)
       (un_li r2792 fun x2793 r2794 =>
        un_li r2794 fun x2795 r2796 =>
        un_li r2796 fun x2797 r2798 =>
        un_nil r2798 <|
        chk (decide (Int.ofNat (List.length x2795) = Int.ofNat (List.length x2795)) && true) <|
        some [.li (x2795), .li (x2797)])
       (none))
    (fun r2799 =>
     un_li r2799 fun x2800 r2801 =>
     un_li r2801 fun x2802 r2803 =>
     un_li r2803 fun x2804 r2805 =>
     un_nil r2805 <|
     chk (decide (Int.ofNat (List.length x2802) = Int.ofNat (List.length x2802)) && true) <|
     some [.li (x2802), .li (x2804)])
    top (states) ([]) ([]) (0) (x2790)
def vec_Of (states : List Int) : Option (List Leaf) := vec_Of_d @vec_Of_3_L states
end Go.Sx.T

