import Derived.Test.YthcddikjnpbnjaaGreatDoorYFixSpec
set_option linter.all false
namespace Go.Sx.T
open Go Go.Sx
def vec_state (s : Int) : Option (List Leaf) :=
  br (s == 0)
    (some [.b (true)])
    (br (s == 1)
       (some [.b (true)])
       (some [.b (s == 3)]))
def vec_May_3_B  {α : Type} (kx : Nat → List Leaf → Option α) (kr : List Leaf → Option α) (again : List Int → List Int → Int → Int → Int → Option α) (cs0 : List Int) (cs1 : List Int) (t8 : Int) (n2 : Int) (t7 : Int) : Option α :=
  br (decide (t8 < t7))
    (chk (decide ((0 : Int) ≤ t8 ∧ t8 < Int.ofNat (List.length cs0))) <|
     chk (decide ((0 : Int) ≤ t8 ∧ t8 < Int.ofNat (List.length cs0))) <|
     out (vec_state (List.getD cs0 (Int.toNat t8) 0)) fun r3020 =>
     un_b r3020 fun x3021 r3022 =>
     un_nil r3022 <|
     br (!x3021)
       (kr [.li (cs0), .li (cs1), .b (false)])
       (br (decide (List.getD cs1 (Int.toNat t8) 0 < 1))
          (kr [.li (cs0), .li (cs1), .b (false)])
          (br (decide (List.getD cs1 (Int.toNat t8) 0 > 64))
             (kr [.li (cs0), .li (cs1), .b (false)])
             (one (addI .i64 n2 (List.getD cs1 (Int.toNat t8) 0)) fun x3023 =>
              br (decide (x3023 > 1000))
                (kr [.li (cs0), .li (cs1), .b (false)])
                (one (addI .i64 t8 1) fun x3024 =>
                 chk (decide (Int.ofNat (List.length cs0) = Int.ofNat (List.length cs0)) && true) <|
                 again (cs0) (cs1) (x3024) (x3023) (t7))))))
    (kx 0 [.li (cs0), .li (cs1)])
def vec_May_3_L {α : Type} (kx : Nat → List Leaf → Option α) (kr : List Leaf → Option α) : Nat → List Int → List Int → Int → Int → Int → Option α
  | 0, _, _, _, _, _ => none
  | n + 1, cs0, cs1, t8, n2, t7 => vec_May_3_B  kx kr (vec_May_3_L kx kr n) cs0 cs1 t8 n2 t7
def vec_May_3_F (L3 : ({β : Type} → (Nat → List Leaf → Option β) → (List Leaf → Option β) → Nat → List Int → List Int → Int → Int → Int → Option β)) {α : Type} (n : Nat) (ls : List Leaf) (kx : Nat → List Leaf → Option α) (kr : List Leaf → Option α) : Option α := un_li ls fun cs0 rr => un_li rr fun cs1 rr => un_i rr fun t8 rr => un_i rr fun n2 rr => un_i rr fun t7 rr => un_nil rr (L3 kx kr n cs0 cs1 t8 n2 t7)
def vec_May_d (L3 : ({β : Type} → (Nat → List Leaf → Option β) → (List Leaf → Option β) → Nat → List Int → List Int → Int → Int → Int → Option β)) (cs0 : List Int) (cs1 : List Int) : Option (List Leaf) :=
  one (Int.ofNat (List.length cs0)) fun x3025 =>
  chk (decide (Int.ofNat (List.length cs0) = Int.ofNat (List.length cs0)) && true) <|
  L3
    (fun i3026 r3027 =>
     br (Nat.beq 0 i3026)
       (un_li r3027 fun x3028 r3029 =>
        un_li r3029 fun x3030 r3031 =>
        un_nil r3031 <|
        some [.b (true)])
       (none))
    (fun r3032 =>
     un_li r3032 fun x3033 r3034 =>
     un_li r3034 fun x3035 r3036 =>
     un_b r3036 fun x3037 r3038 =>
     un_nil r3038 <|
     some [.b (x3037)])
    top (cs0) (cs1) (0) (0) (x3025)
def vec_May (cs0 : List Int) (cs1 : List Int) : Option (List Leaf) := vec_May_d @vec_May_3_L cs0 cs1
def vec_Repeat_8_B  {α : Type} (kx : Nat → List Leaf → Option α) (kr : List Leaf → Option α) (again : List Int → List Int → Int → Option α) (x : List Int) (newslice : List Int) (n2 : Int) : Option α :=
  one (Int.ofNat (List.length newslice)) fun x3050 =>
  br (decide (n2 < x3050))
    (chk (condSl (rlOf [[Col.int .i64 x], [Col.int .i64 newslice]] (1 : Nat)) (Option.some n2) Option.none) <|
     chk (condSl (rlOf [[Col.int .i64 x], [Col.int .i64 newslice]] (1 : Nat)) Option.none (Option.some n2)) <|
     chk (rowIn Option.none n2 (Int.ofNat (List.length newslice)) && rowIn (Option.some (offAdd Option.none n2)) (lenSl (rlOf [[Col.int .i64 x], [Col.int .i64 newslice]] (1 : Nat)) (Option.some n2) Option.none) (Int.ofNat (List.length newslice))) <|
     one (addI .i64 n2 (minI (↑(List.length (partL Option.none n2 newslice)) : Int) (lenSl (rlOf [[Col.int .i64 x], [Col.int .i64 newslice]] (1 : Nat)) (Option.some n2) Option.none))) fun x3051 =>
     chk (decide (Int.ofNat (List.length newslice) = Int.ofNat (List.length (spliceL (Option.some (offAdd Option.none n2)) (Int.toNat (minI (↑(List.length (partL Option.none n2 newslice)) : Int) (lenSl (rlOf [[Col.int .i64 x], [Col.int .i64 newslice]] (1 : Nat)) (Option.some n2) Option.none))) newslice (partL Option.none n2 newslice)))) && true) <|
     again (x) (spliceL (Option.some (offAdd Option.none n2)) (Int.toNat (minI (↑(List.length (partL Option.none n2 newslice)) : Int) (lenSl (rlOf [[Col.int .i64 x], [Col.int .i64 newslice]] (1 : Nat)) (Option.some n2) Option.none))) newslice (partL Option.none n2 newslice)) (x3051))
    (chk (decide (Int.ofNat (List.length newslice) = Int.ofNat (List.length newslice)) && true) <|
     kx 0 [.li (x), .li (newslice)])
def vec_Repeat_8_L {α : Type} (kx : Nat → List Leaf → Option α) (kr : List Leaf → Option α) : Nat → List Int → List Int → Int → Option α
  | 0, _, _, _ => none
  | n + 1, x, newslice, n2 => vec_Repeat_8_B  kx kr (vec_Repeat_8_L kx kr n) x newslice n2
def vec_Repeat_8_F (L8 : ({β : Type} → (Nat → List Leaf → Option β) → (List Leaf → Option β) → Nat → List Int → List Int → Int → Option β)) {α : Type} (n : Nat) (ls : List Leaf) (kx : Nat → List Leaf → Option α) (kr : List Leaf → Option α) : Option α := un_li ls fun x rr => un_li rr fun newslice rr => un_i rr fun n2 rr => un_nil rr (L8 kx kr n x newslice n2)
def vec_Repeat_d (L8 : ({β : Type} → (Nat → List Leaf → Option β) → (List Leaf → Option β) → Nat → List Int → List Int → Int → Option β)) (x : List Int) (count : Int) : Option (List Leaf) :=
  br (decide (count < 0))
    (none)
    (one (Int.ofNat (List.length x)) fun x3052 =>
     one (wrapI .u64 x3052) fun x3053 =>
     one (wrapI .u64 count) fun x3054 =>
     out (bits_Mul x3053 x3054) fun r3055 =>
     un_i r3055 fun x3056 r3057 =>
     un_i r3057 fun x3058 r3059 =>
     un_nil r3059 <|
     br (decide (x3056 > 0))
       (none)
       (br (decide (x3058 > 9223372036854775807))
          (none)
          (one (wrapI .i64 x3058) fun x3060 =>
           chk (decide ((0 : Int) ≤ x3060 ∧ x3060 ≤ x3060 ∧ (↑(nat_lit 8) : Int) * x3060 ≤ (140737488355328 : Int) ∧ x3060 ≤ (4611686018427387904 : Int))) <|
           chk (rowIn Option.none (Int.ofNat (List.length x)) (Int.ofNat (List.length x)) && rowIn Option.none x3060 x3060) <|
           chk (decide (x3060 = Int.ofNat (List.length (spliceL Option.none (Int.toNat (minI (↑(List.length (partL Option.none (Int.ofNat (List.length x)) x)) : Int) x3060)) (List.replicate (Int.toNat x3060) (0 : Int)) (partL Option.none (Int.ofNat (List.length x)) x)))) && true) <|
           L8
             (fun i3061 r3062 =>
              br (Nat.beq 0 i3061)
                (un_li r3062 fun x3063 r3064 =>
                 un_li r3064 fun x3065 r3066 =>
                 un_nil r3066 <|
                 chk (decide (Int.ofNat (List.length x3065) = Int.ofNat (List.length x3065)) && true) <|
                 some [.li (x3065)])
                (none))
             (fun r3067 =>
              un_nil r3067 <|
              none)
             top (x) (spliceL Option.none (Int.toNat (minI (↑(List.length (partL Option.none (Int.ofNat (List.length x)) x)) : Int) x3060)) (List.replicate (Int.toNat x3060) 0) (partL Option.none (Int.ofNat (List.length x)) x)) (minI (↑(List.length (partL Option.none (Int.ofNat (List.length x)) x)) : Int) x3060))))
def vec_Repeat (x : List Int) (count : Int) : Option (List Leaf) := vec_Repeat_d @vec_Repeat_8_L x count
def vec_Spread_5_B  {α : Type} (kx : Nat → List Leaf → Option α) (kr : List Leaf → Option α) (again : List Int → List Int → List Int → Int → Int → Option α) (cs0 : List Int) (cs1 : List Int) (out2 : List Int) (t11 : Int) (t10 : Int) : Option α :=
  br (decide (t11 < t10))
    (chk (decide ((0 : Int) ≤ t11 ∧ t11 < Int.ofNat (List.length cs0))) <|
     chk (decide ((0 : Int) ≤ t11 ∧ t11 < Int.ofNat (List.length cs0))) <|
     chk (decide ((↑(1 : Nat) : Int) = Int.ofNat (List.length [List.getD cs0 (Int.toNat t11) (0 : Int)])) && true) <|
     out (vec_Repeat [List.getD cs0 (Int.toNat t11) (0 : Int)] (List.getD cs1 (Int.toNat t11) (0 : Int))) fun r3076 =>
     un_li r3076 fun x3077 r3078 =>
     un_nil r3078 <|
     chk (decide (Int.ofNat (List.length out2) = Int.ofNat (List.length out2)) && decide (Int.ofNat (List.length x3077) = Int.ofNat (List.length x3077)) && decide ((Int.ofNat (List.length out2) + Int.ofNat (List.length x3077)) * (↑(nat_lit 8) : Int) ≤ (140737488355328 : Int) ∧ Int.ofNat (List.length out2) + Int.ofNat (List.length x3077) ≤ (4611686018427387904 : Int))) <|
     one (addI .i64 t11 1) fun x3079 =>
     chk (decide (Int.ofNat (List.length out2) + Int.ofNat (List.length x3077) = Int.ofNat (List.length (out2 ++ x3077))) && (decide (Int.ofNat (List.length cs0) = Int.ofNat (List.length cs0)) && true)) <|
     again (cs0) (cs1) (out2 ++ x3077) (x3079) (t10))
    (chk (decide (Int.ofNat (List.length out2) = Int.ofNat (List.length out2)) && true) <|
     kx 0 [.li (cs0), .li (cs1), .li (out2)])
def vec_Spread_5_L {α : Type} (kx : Nat → List Leaf → Option α) (kr : List Leaf → Option α) : Nat → List Int → List Int → List Int → Int → Int → Option α
  | 0, _, _, _, _, _ => none
  | n + 1, cs0, cs1, out2, t11, t10 => vec_Spread_5_B  kx kr (vec_Spread_5_L kx kr n) cs0 cs1 out2 t11 t10
def vec_Spread_5_F (L5 : ({β : Type} → (Nat → List Leaf → Option β) → (List Leaf → Option β) → Nat → List Int → List Int → List Int → Int → Int → Option β)) {α : Type} (n : Nat) (ls : List Leaf) (kx : Nat → List Leaf → Option α) (kr : List Leaf → Option α) : Option α := un_li ls fun cs0 rr => un_li rr fun cs1 rr => un_li rr fun out2 rr => un_i rr fun t11 rr => un_i rr fun t10 rr => un_nil rr (L5 kx kr n cs0 cs1 out2 t11 t10)
def vec_Spread_d (L5 : ({β : Type} → (Nat → List Leaf → Option β) → (List Leaf → Option β) → Nat → List Int → List Int → List Int → Int → Int → Option β)) (cs0 : List Int) (cs1 : List Int) : Option (List Leaf) :=
  chk (decide (Int.ofNat (List.length cs0) = Int.ofNat (List.length cs0)) && true) <|
  out (vec_May cs0 cs1) fun r3080 =>
  un_b r3080 fun x3081 r3082 =>
  un_nil r3082 <|
  br (!x3081)
    (chk (decide ((0 : Int) = Int.ofNat (0 : Nat)) && true) <|
     some [.li ([])])
    (one (Int.ofNat (List.length cs0)) fun x3083 =>
     chk (decide ((0 : Int) = Int.ofNat (0 : Nat)) && (decide (Int.ofNat (List.length cs0) = Int.ofNat (List.length cs0)) && true)) <|
     L5
       (fun i3084 r3085 =>
        br (Nat.beq 0 i3084)
          (un_li r3085 fun x3086 r3087 =>
           un_li r3087 fun x3088 r3089 =>
           un_li r3089 fun x3090 r3091 =>
           un_nil r3091 <|
           chk (decide (Int.ofNat (List.length x3090) = Int.ofNat (List.length x3090)) && true) <|
           some [.li (x3090)])
          (none))
       (fun r3092 =>
        un_nil r3092 <|
        none)
       top (cs0) (cs1) ([]) (0) (x3083))
def vec_Spread (cs0 : List Int) (cs1 : List Int) : Option (List Leaf) := vec_Spread_d @vec_Spread_5_L cs0 cs1
def vec_Of_3_B  {α : Type} (kx : Nat → List Leaf → Option α) (kr : List Leaf → Option α) (again : List Int → List Int → List Int → Int → Int → Option α) (states : List Int) (out0 : List Int) (out1 : List Int) (t9 : Int) (t8 : Int) : Option α :=
  br (decide (t9 < t8))
    (chk (decide ((0 : Int) ≤ t9 ∧ t9 < Int.ofNat (List.length states))) <|
     chk (decide ((0 : Int) ≤ t9 ∧ t9 < Int.ofNat (List.length states))) <|
     out (vec_state (List.getD states (Int.toNat t9) 0)) fun r3104 =>
     un_b r3104 fun x3105 r3106 =>
     un_nil r3106 <|
     br (!x3105)
       (chk (decide ((0 : Int) = Int.ofNat (0 : Nat)) && true) <|
        kr [.li (states), .li ([]), .li ([])])
       (one (Int.ofNat (List.length out0)) fun x3107 =>
        one (subI .i64 x3107 1) fun x3108 =>
        br (decide (x3108 ≥ 0))
          (chk (decide ((0 : Int) ≤ x3108 ∧ x3108 < Int.ofNat (List.length out0))) <|
           chk (decide ((0 : Int) ≤ x3108 ∧ x3108 < Int.ofNat (List.length out0))) <|
           br (List.getD out0 (Int.toNat x3108) 0 == List.getD states (Int.toNat t9) 0)
             (chk (decide ((0 : Int) ≤ x3108 ∧ x3108 < Int.ofNat (List.length out0))) <|
              chk (decide ((0 : Int) ≤ x3108 ∧ x3108 < Int.ofNat (List.length out0))) <|
              br (decide (List.getD out1 (Int.toNat x3108) 0 < 64))
                (chk (decide ((0 : Int) ≤ x3108 ∧ x3108 < Int.ofNat (List.length out0))) <|
                 chk (decide ((0 : Int) ≤ x3108 ∧ x3108 < Int.ofNat (List.length out0))) <|
                 one (addI .i64 (List.getD out1 (Int.toNat x3108) 0) 1) fun x3109 =>
                 chk (decide ((0 : Int) ≤ x3108 ∧ x3108 < Int.ofNat (List.length out0))) <|
                 chk (decide ((0 : Int) ≤ x3108 ∧ x3108 < Int.ofNat (List.length out0))) <|
                 one (addI .i64 t9 1) fun x3110 =>
                 chk (decide (Int.ofNat (List.length out0) = Int.ofNat (List.length out0)) && (decide (Int.ofNat (List.length states) = Int.ofNat (List.length states)) && true)) <|
                 again (states) (out0) (List.set out1 (Int.toNat x3108) x3109) (x3110) (t8))
                (chk (decide (Int.ofNat (List.length out0) = Int.ofNat (List.length out0)) && true && decide ((Int.ofNat (List.length out0) + (↑(1 : Nat) : Int)) * (↑(nat_lit 16) : Int) ≤ (140737488355328 : Int) ∧ Int.ofNat (List.length out0) + (↑(1 : Nat) : Int) ≤ (4611686018427387904 : Int))) <|
                 one (addI .i64 t9 1) fun x3111 =>
                 chk (decide (Int.ofNat (List.length out0) + (↑(1 : Nat) : Int) = Int.ofNat (List.length (out0 ++ [List.getD states (Int.toNat t9) (0 : Int)]))) && (decide (Int.ofNat (List.length states) = Int.ofNat (List.length states)) && true)) <|
                 again (states) (out0 ++ [List.getD states (Int.toNat t9) (0 : Int)]) (out1 ++ [(1 : Int)]) (x3111) (t8)))
             (chk (decide (Int.ofNat (List.length out0) = Int.ofNat (List.length out0)) && true && decide ((Int.ofNat (List.length out0) + (↑(1 : Nat) : Int)) * (↑(nat_lit 16) : Int) ≤ (140737488355328 : Int) ∧ Int.ofNat (List.length out0) + (↑(1 : Nat) : Int) ≤ (4611686018427387904 : Int))) <|
              one (addI .i64 t9 1) fun x3112 =>
              chk (decide (Int.ofNat (List.length out0) + (↑(1 : Nat) : Int) = Int.ofNat (List.length (out0 ++ [List.getD states (Int.toNat t9) (0 : Int)]))) && (decide (Int.ofNat (List.length states) = Int.ofNat (List.length states)) && true)) <|
              again (states) (out0 ++ [List.getD states (Int.toNat t9) (0 : Int)]) (out1 ++ [(1 : Int)]) (x3112) (t8)))
          (chk (decide (Int.ofNat (List.length out0) = Int.ofNat (List.length out0)) && true && decide ((Int.ofNat (List.length out0) + (↑(1 : Nat) : Int)) * (↑(nat_lit 16) : Int) ≤ (140737488355328 : Int) ∧ Int.ofNat (List.length out0) + (↑(1 : Nat) : Int) ≤ (4611686018427387904 : Int))) <|
           one (addI .i64 t9 1) fun x3113 =>
           chk (decide (Int.ofNat (List.length out0) + (↑(1 : Nat) : Int) = Int.ofNat (List.length (out0 ++ [List.getD states (Int.toNat t9) (0 : Int)]))) && (decide (Int.ofNat (List.length states) = Int.ofNat (List.length states)) && true)) <|
           again (states) (out0 ++ [List.getD states (Int.toNat t9) (0 : Int)]) (out1 ++ [(1 : Int)]) (x3113) (t8))))
    (chk (decide (Int.ofNat (List.length out0) = Int.ofNat (List.length out0)) && true) <|
     kx 0 [.li (states), .li (out0), .li (out1)])
def vec_Of_3_L {α : Type} (kx : Nat → List Leaf → Option α) (kr : List Leaf → Option α) : Nat → List Int → List Int → List Int → Int → Int → Option α
  | 0, _, _, _, _, _ => none
  | n + 1, states, out0, out1, t9, t8 => vec_Of_3_B  kx kr (vec_Of_3_L kx kr n) states out0 out1 t9 t8
def vec_Of_3_F (L3 : ({β : Type} → (Nat → List Leaf → Option β) → (List Leaf → Option β) → Nat → List Int → List Int → List Int → Int → Int → Option β)) {α : Type} (n : Nat) (ls : List Leaf) (kx : Nat → List Leaf → Option α) (kr : List Leaf → Option α) : Option α := un_li ls fun states rr => un_li rr fun out0 rr => un_li rr fun out1 rr => un_i rr fun t9 rr => un_i rr fun t8 rr => un_nil rr (L3 kx kr n states out0 out1 t9 t8)
def vec_Of_d (L3 : ({β : Type} → (Nat → List Leaf → Option β) → (List Leaf → Option β) → Nat → List Int → List Int → List Int → Int → Int → Option β)) (states : List Int) : Option (List Leaf) :=
  one (Int.ofNat (List.length states)) fun x3114 =>
  chk (decide ((0 : Int) = Int.ofNat (0 : Nat)) && (decide (Int.ofNat (List.length states) = Int.ofNat (List.length states)) && true)) <|
  L3
    (fun i3115 r3116 =>
     br (Nat.beq 0 i3115)
       (un_li r3116 fun x3117 r3118 =>
        un_li r3118 fun x3119 r3120 =>
        un_li r3120 fun x3121 r3122 =>
        un_nil r3122 <|
        chk (decide (Int.ofNat (List.length x3119) = Int.ofNat (List.length x3119)) && true) <|
        some [.li (x3119), .li (x3121)])
       (none))
    (fun r3123 =>
     un_li r3123 fun x3124 r3125 =>
     un_li r3125 fun x3126 r3127 =>
     un_li r3127 fun x3128 r3129 =>
     un_nil r3129 <|
     chk (decide (Int.ofNat (List.length x3126) = Int.ofNat (List.length x3126)) && true) <|
     some [.li (x3126), .li (x3128)])
    top (states) ([]) ([]) (0) (x3114)
def vec_Of (states : List Int) : Option (List Leaf) := vec_Of_d @vec_Of_3_L states
end Go.Sx.T

