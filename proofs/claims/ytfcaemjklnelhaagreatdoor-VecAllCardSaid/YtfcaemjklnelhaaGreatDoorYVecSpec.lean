import Derived.Test.YtfcaemjklnelhaaGreatDoorYLowSpec
set_option linter.all false
namespace Go.Sx.T
open Go Go.Sx
def bits_Mul64 (x : Int) (y : Int) : Option (List Leaf) :=
  one (andI .u64 x 4294967295) fun x23 =>
  one (shrI .u64 x 32) fun x24 =>
  one (andI .u64 y 4294967295) fun x25 =>
  one (shrI .u64 y 32) fun x26 =>
  one (mulI .u64 x23 x25) fun x27 =>
  one (mulI .u64 x24 x25) fun x28 =>
  one (shrI .u64 x27 32) fun x29 =>
  one (addI .u64 x28 x29) fun x30 =>
  one (andI .u64 x30 4294967295) fun x31 =>
  one (shrI .u64 x30 32) fun x32 =>
  one (mulI .u64 x23 x26) fun x33 =>
  one (addI .u64 x31 x33) fun x34 =>
  one (mulI .u64 x24 x26) fun x35 =>
  one (addI .u64 x35 x32) fun x36 =>
  one (shrI .u64 x34 32) fun x37 =>
  one (addI .u64 x36 x37) fun x38 =>
  one (mulI .u64 x y) fun x39 =>
  some [.i (x38), .i (x39)]
def bits_Mul (x : Int) (y : Int) : Option (List Leaf) :=
  out (bits_Mul64 x y) fun r40 =>
  un_i r40 fun x41 r42 =>
  un_i r42 fun x43 r44 =>
  un_nil r44 <|
  one (x41) fun x45 =>
  one (x43) fun x46 =>
  some [.i (x45), .i (x46)]
def vec_state (s : Int) : Option (List Leaf) :=
  br (s == 0)
    (some [.b (true)])
    (br (s == 1)
       (some [.b (true)])
       (some [.b (s == 3)]))
def vec_May_3_B  {α : Type} (kx : Nat → List Leaf → Option α) (kr : List Leaf → Option α) (again : List Int → List Int → Int → Int → Int → Option α) (cs0 : List Int) (cs1 : List Int) (t8 : Int) (n2 : Int) (t7 : Int) : Option α :=
  br (decide (t8 < t7))
    (chk (decide ((0 : Int) ≤ t8 ∧ t8 < Int.ofNat (List.length cs0))) <|
     chk (decide ((0 : Int) ≤ t8 ∧ t8 < Int.ofNat (List.length cs0))) <|
     out (vec_state (List.getD cs0 (Int.toNat t8) 0)) fun r53 =>
     un_b r53 fun x54 r55 =>
     un_nil r55 <|
     br (!x54)
       (kr [.li (cs0), .li (cs1), .b (false)])
       (br (decide (List.getD cs1 (Int.toNat t8) 0 < 1))
          (kr [.li (cs0), .li (cs1), .b (false)])
          (br (decide (List.getD cs1 (Int.toNat t8) 0 > 64))
             (kr [.li (cs0), .li (cs1), .b (false)])
             (one (addI .i64 n2 (List.getD cs1 (Int.toNat t8) 0)) fun x56 =>
              br (decide (x56 > 1000))
                (kr [.li (cs0), .li (cs1), .b (false)])
                (one (addI .i64 t8 1) fun x57 =>
                 chk (decide (Int.ofNat (List.length cs0) = Int.ofNat (List.length cs0)) && true) <|
                 again (cs0) (cs1) (x57) (x56) (t7))))))
    (kx 0 [.li (cs0), .li (cs1)])
def vec_May_3_L {α : Type} (kx : Nat → List Leaf → Option α) (kr : List Leaf → Option α) : Nat → List Int → List Int → Int → Int → Int → Option α
  | 0, _, _, _, _, _ => none
  | n + 1, cs0, cs1, t8, n2, t7 => vec_May_3_B  kx kr (vec_May_3_L kx kr n) cs0 cs1 t8 n2 t7
def vec_May_3_F (L3 : ({β : Type} → (Nat → List Leaf → Option β) → (List Leaf → Option β) → Nat → List Int → List Int → Int → Int → Int → Option β)) {α : Type} (n : Nat) (ls : List Leaf) (kx : Nat → List Leaf → Option α) (kr : List Leaf → Option α) : Option α := un_li ls fun cs0 rr => un_li rr fun cs1 rr => un_i rr fun t8 rr => un_i rr fun n2 rr => un_i rr fun t7 rr => un_nil rr (L3 kx kr n cs0 cs1 t8 n2 t7)
def vec_May_d (L3 : ({β : Type} → (Nat → List Leaf → Option β) → (List Leaf → Option β) → Nat → List Int → List Int → Int → Int → Int → Option β)) (cs0 : List Int) (cs1 : List Int) : Option (List Leaf) :=
  one (Int.ofNat (List.length cs0)) fun x58 =>
  chk (decide (Int.ofNat (List.length cs0) = Int.ofNat (List.length cs0)) && true) <|
  L3
    (fun i59 r60 =>
     br (Nat.beq 0 i59)
       (un_li r60 fun x61 r62 =>
        un_li r62 fun x63 r64 =>
        un_nil r64 <|
        some [.b (true)])
       (none))
    (fun r65 =>
     un_li r65 fun x66 r67 =>
     un_li r67 fun x68 r69 =>
     un_b r69 fun x70 r71 =>
     un_nil r71 <|
     some [.b (x70)])
    top (cs0) (cs1) (0) (0) (x58)
def vec_May (cs0 : List Int) (cs1 : List Int) : Option (List Leaf) := vec_May_d @vec_May_3_L cs0 cs1
def vec_Repeat_8_B  {α : Type} (kx : Nat → List Leaf → Option α) (kr : List Leaf → Option α) (again : List Int → List Int → Int → Option α) (x : List Int) (newslice : List Int) (n2 : Int) : Option α :=
  one (Int.ofNat (List.length newslice)) fun x85 =>
  br (decide (n2 < x85))
    (chk (condSl (rlOf [[Col.int .i64 x], [Col.int .i64 newslice]] (1 : Nat)) (Option.some n2) Option.none) <|
     chk (condSl (rlOf [[Col.int .i64 x], [Col.int .i64 newslice]] (1 : Nat)) Option.none (Option.some n2)) <|
     chk (rowIn Option.none n2 (Int.ofNat (List.length newslice)) && rowIn (Option.some (offAdd Option.none n2)) (lenSl (rlOf [[Col.int .i64 x], [Col.int .i64 newslice]] (1 : Nat)) (Option.some n2) Option.none) (Int.ofNat (List.length newslice))) <|
     one (addI .i64 n2 (minI (↑(List.length (partL Option.none n2 newslice)) : Int) (lenSl (rlOf [[Col.int .i64 x], [Col.int .i64 newslice]] (1 : Nat)) (Option.some n2) Option.none))) fun x86 =>
     chk (decide (Int.ofNat (List.length newslice) = Int.ofNat (List.length (spliceL (Option.some (offAdd Option.none n2)) (Int.toNat (minI (↑(List.length (partL Option.none n2 newslice)) : Int) (lenSl (rlOf [[Col.int .i64 x], [Col.int .i64 newslice]] (1 : Nat)) (Option.some n2) Option.none))) newslice (partL Option.none n2 newslice)))) && true) <|
     again (x) (spliceL (Option.some (offAdd Option.none n2)) (Int.toNat (minI (↑(List.length (partL Option.none n2 newslice)) : Int) (lenSl (rlOf [[Col.int .i64 x], [Col.int .i64 newslice]] (1 : Nat)) (Option.some n2) Option.none))) newslice (partL Option.none n2 newslice)) (x86))
    (chk (decide (Int.ofNat (List.length newslice) = Int.ofNat (List.length newslice)) && true) <|
     kx 0 [.li (x), .li (newslice)])
def vec_Repeat_8_L {α : Type} (kx : Nat → List Leaf → Option α) (kr : List Leaf → Option α) : Nat → List Int → List Int → Int → Option α
  | 0, _, _, _ => none
  | n + 1, x, newslice, n2 => vec_Repeat_8_B  kx kr (vec_Repeat_8_L kx kr n) x newslice n2
def vec_Repeat_8_F (L8 : ({β : Type} → (Nat → List Leaf → Option β) → (List Leaf → Option β) → Nat → List Int → List Int → Int → Option β)) {α : Type} (n : Nat) (ls : List Leaf) (kx : Nat → List Leaf → Option α) (kr : List Leaf → Option α) : Option α := un_li ls fun x rr => un_li rr fun newslice rr => un_i rr fun n2 rr => un_nil rr (L8 kx kr n x newslice n2)
def vec_Repeat_d (L8 : ({β : Type} → (Nat → List Leaf → Option β) → (List Leaf → Option β) → Nat → List Int → List Int → Int → Option β)) (x : List Int) (count : Int) : Option (List Leaf) :=
  br (decide (count < 0))
    (none)
    (one (Int.ofNat (List.length x)) fun x87 =>
     one (wrapI .u64 x87) fun x88 =>
     one (wrapI .u64 count) fun x89 =>
     out (bits_Mul x88 x89) fun r90 =>
     un_i r90 fun x91 r92 =>
     un_i r92 fun x93 r94 =>
     un_nil r94 <|
     one (x91) fun x95 =>
     one (x93) fun x96 =>
     br (decide (x95 > 0))
       (none)
       (br (decide (x96 > 9223372036854775807))
          (none)
          (one (wrapI .i64 x96) fun x97 =>
           chk (decide ((0 : Int) ≤ x97 ∧ x97 ≤ x97 ∧ (↑(nat_lit 8) : Int) * x97 ≤ (140737488355328 : Int) ∧ x97 ≤ (4611686018427387904 : Int))) <|
           chk (rowIn Option.none (Int.ofNat (List.length x)) (Int.ofNat (List.length x)) && rowIn Option.none x97 x97) <|
           chk (decide (x97 = Int.ofNat (List.length (spliceL Option.none (Int.toNat (minI (↑(List.length (partL Option.none (Int.ofNat (List.length x)) x)) : Int) x97)) (List.replicate (Int.toNat x97) (0 : Int)) (partL Option.none (Int.ofNat (List.length x)) x)))) && true) <|
           L8
             (fun i98 r99 =>
              br (Nat.beq 0 i98)
                (un_li r99 fun x100 r101 =>
                 un_li r101 fun x102 r103 =>
                 un_nil r103 <|
                 chk (decide (Int.ofNat (List.length x102) = Int.ofNat (List.length x102)) && true) <|
                 some [.li (x102)])
                (none))
             (fun r104 =>
              un_nil r104 <|
              none)
             top (x) (spliceL Option.none (Int.toNat (minI (↑(List.length (partL Option.none (Int.ofNat (List.length x)) x)) : Int) x97)) (List.replicate (Int.toNat x97) 0) (partL Option.none (Int.ofNat (List.length x)) x)) (minI (↑(List.length (partL Option.none (Int.ofNat (List.length x)) x)) : Int) x97))))
def vec_Repeat (x : List Int) (count : Int) : Option (List Leaf) := vec_Repeat_d @vec_Repeat_8_L x count
def vec_Spread_5_B  {α : Type} (kx : Nat → List Leaf → Option α) (kr : List Leaf → Option α) (again : List Int → List Int → List Int → Int → Int → Option α) (cs0 : List Int) (cs1 : List Int) (out2 : List Int) (t11 : Int) (t10 : Int) : Option α :=
  br (decide (t11 < t10))
    (chk (decide ((0 : Int) ≤ t11 ∧ t11 < Int.ofNat (List.length cs0))) <|
     chk (decide ((0 : Int) ≤ t11 ∧ t11 < Int.ofNat (List.length cs0))) <|
     chk (decide ((↑(1 : Nat) : Int) = Int.ofNat (List.length [List.getD cs0 (Int.toNat t11) (0 : Int)])) && true) <|
     out (vec_Repeat [List.getD cs0 (Int.toNat t11) (0 : Int)] (List.getD cs1 (Int.toNat t11) (0 : Int))) fun r113 =>
     un_li r113 fun x114 r115 =>
     un_nil r115 <|
     chk (decide (Int.ofNat (List.length out2) = Int.ofNat (List.length out2)) && decide (Int.ofNat (List.length x114) = Int.ofNat (List.length x114)) && decide ((Int.ofNat (List.length out2) + Int.ofNat (List.length x114)) * (↑(nat_lit 8) : Int) ≤ (140737488355328 : Int) ∧ Int.ofNat (List.length out2) + Int.ofNat (List.length x114) ≤ (4611686018427387904 : Int))) <|
     one (addI .i64 t11 1) fun x116 =>
     chk (decide (Int.ofNat (List.length out2) + Int.ofNat (List.length x114) = Int.ofNat (List.length (out2 ++ x114))) && (decide (Int.ofNat (List.length cs0) = Int.ofNat (List.length cs0)) && true)) <|
     again (cs0) (cs1) (out2 ++ x114) (x116) (t10))
    (chk (decide (Int.ofNat (List.length out2) = Int.ofNat (List.length out2)) && true) <|
     kx 0 [.li (cs0), .li (cs1), .li (out2)])
def vec_Spread_5_L {α : Type} (kx : Nat → List Leaf → Option α) (kr : List Leaf → Option α) : Nat → List Int → List Int → List Int → Int → Int → Option α
  | 0, _, _, _, _, _ => none
  | n + 1, cs0, cs1, out2, t11, t10 => vec_Spread_5_B  kx kr (vec_Spread_5_L kx kr n) cs0 cs1 out2 t11 t10
def vec_Spread_5_F (L5 : ({β : Type} → (Nat → List Leaf → Option β) → (List Leaf → Option β) → Nat → List Int → List Int → List Int → Int → Int → Option β)) {α : Type} (n : Nat) (ls : List Leaf) (kx : Nat → List Leaf → Option α) (kr : List Leaf → Option α) : Option α := un_li ls fun cs0 rr => un_li rr fun cs1 rr => un_li rr fun out2 rr => un_i rr fun t11 rr => un_i rr fun t10 rr => un_nil rr (L5 kx kr n cs0 cs1 out2 t11 t10)
def vec_Spread_d (L5 : ({β : Type} → (Nat → List Leaf → Option β) → (List Leaf → Option β) → Nat → List Int → List Int → List Int → Int → Int → Option β)) (cs0 : List Int) (cs1 : List Int) : Option (List Leaf) :=
  chk (decide (Int.ofNat (List.length cs0) = Int.ofNat (List.length cs0)) && true) <|
  out (vec_May cs0 cs1) fun r117 =>
  un_b r117 fun x118 r119 =>
  un_nil r119 <|
  br (!x118)
    (chk (decide ((0 : Int) = Int.ofNat (0 : Nat)) && true) <|
     some [.li ([])])
    (one (Int.ofNat (List.length cs0)) fun x120 =>
     chk (decide ((0 : Int) = Int.ofNat (0 : Nat)) && (decide (Int.ofNat (List.length cs0) = Int.ofNat (List.length cs0)) && true)) <|
     L5
       (fun i121 r122 =>
        br (Nat.beq 0 i121)
          (un_li r122 fun x123 r124 =>
           un_li r124 fun x125 r126 =>
           un_li r126 fun x127 r128 =>
           un_nil r128 <|
           chk (decide (Int.ofNat (List.length x127) = Int.ofNat (List.length x127)) && true) <|
           some [.li (x127)])
          (none))
       (fun r129 =>
        un_nil r129 <|
        none)
       top (cs0) (cs1) ([]) (0) (x120))
def vec_Spread (cs0 : List Int) (cs1 : List Int) : Option (List Leaf) := vec_Spread_d @vec_Spread_5_L cs0 cs1
def vec_Of_3_B  {α : Type} (kx : Nat → List Leaf → Option α) (kr : List Leaf → Option α) (again : List Int → List Int → List Int → Int → Int → Option α) (states : List Int) (out0 : List Int) (out1 : List Int) (t9 : Int) (t8 : Int) : Option α :=
  br (decide (t9 < t8))
    (chk (decide ((0 : Int) ≤ t9 ∧ t9 < Int.ofNat (List.length states))) <|
     chk (decide ((0 : Int) ≤ t9 ∧ t9 < Int.ofNat (List.length states))) <|
     out (vec_state (List.getD states (Int.toNat t9) 0)) fun r141 =>
     un_b r141 fun x142 r143 =>
     un_nil r143 <|
     br (!x142)
       (chk (decide ((0 : Int) = Int.ofNat (0 : Nat)) && true) <|
        kr [.li (states), .li ([]), .li ([])])
       (one (Int.ofNat (List.length out0)) fun x144 =>
        one (subI .i64 x144 1) fun x145 =>
        br (decide (x145 ≥ 0))
          (chk (decide ((0 : Int) ≤ x145 ∧ x145 < Int.ofNat (List.length out0))) <|
           chk (decide ((0 : Int) ≤ x145 ∧ x145 < Int.ofNat (List.length out0))) <|
           br (List.getD out0 (Int.toNat x145) 0 == List.getD states (Int.toNat t9) 0)
             (chk (decide ((0 : Int) ≤ x145 ∧ x145 < Int.ofNat (List.length out0))) <|
              chk (decide ((0 : Int) ≤ x145 ∧ x145 < Int.ofNat (List.length out0))) <|
              br (decide (List.getD out1 (Int.toNat x145) 0 < 64))
                (chk (decide ((0 : Int) ≤ x145 ∧ x145 < Int.ofNat (List.length out0))) <|
                 chk (decide ((0 : Int) ≤ x145 ∧ x145 < Int.ofNat (List.length out0))) <|
                 one (addI .i64 (List.getD out1 (Int.toNat x145) 0) 1) fun x146 =>
                 chk (decide ((0 : Int) ≤ x145 ∧ x145 < Int.ofNat (List.length out0))) <|
                 chk (decide ((0 : Int) ≤ x145 ∧ x145 < Int.ofNat (List.length out0))) <|
                 one (addI .i64 t9 1) fun x147 =>
                 chk (decide (Int.ofNat (List.length out0) = Int.ofNat (List.length out0)) && (decide (Int.ofNat (List.length states) = Int.ofNat (List.length states)) && true)) <|
                 again (states) (out0) (List.set out1 (Int.toNat x145) x146) (x147) (t8))
                (chk (decide (Int.ofNat (List.length out0) = Int.ofNat (List.length out0)) && true && decide ((Int.ofNat (List.length out0) + (↑(1 : Nat) : Int)) * (↑(nat_lit 16) : Int) ≤ (140737488355328 : Int) ∧ Int.ofNat (List.length out0) + (↑(1 : Nat) : Int) ≤ (4611686018427387904 : Int))) <|
                 one (addI .i64 t9 1) fun x148 =>
                 chk (decide (Int.ofNat (List.length out0) + (↑(1 : Nat) : Int) = Int.ofNat (List.length (out0 ++ [List.getD states (Int.toNat t9) (0 : Int)]))) && (decide (Int.ofNat (List.length states) = Int.ofNat (List.length states)) && true)) <|
                 again (states) (out0 ++ [List.getD states (Int.toNat t9) (0 : Int)]) (out1 ++ [(1 : Int)]) (x148) (t8)))
             (chk (decide (Int.ofNat (List.length out0) = Int.ofNat (List.length out0)) && true && decide ((Int.ofNat (List.length out0) + (↑(1 : Nat) : Int)) * (↑(nat_lit 16) : Int) ≤ (140737488355328 : Int) ∧ Int.ofNat (List.length out0) + (↑(1 : Nat) : Int) ≤ (4611686018427387904 : Int))) <|
              one (addI .i64 t9 1) fun x149 =>
              chk (decide (Int.ofNat (List.length out0) + (↑(1 : Nat) : Int) = Int.ofNat (List.length (out0 ++ [List.getD states (Int.toNat t9) (0 : Int)]))) && (decide (Int.ofNat (List.length states) = Int.ofNat (List.length states)) && true)) <|
              again (states) (out0 ++ [List.getD states (Int.toNat t9) (0 : Int)]) (out1 ++ [(1 : Int)]) (x149) (t8)))
          (chk (decide (Int.ofNat (List.length out0) = Int.ofNat (List.length out0)) && true && decide ((Int.ofNat (List.length out0) + (↑(1 : Nat) : Int)) * (↑(nat_lit 16) : Int) ≤ (140737488355328 : Int) ∧ Int.ofNat (List.length out0) + (↑(1 : Nat) : Int) ≤ (4611686018427387904 : Int))) <|
           one (addI .i64 t9 1) fun x150 =>
           chk (decide (Int.ofNat (List.length out0) + (↑(1 : Nat) : Int) = Int.ofNat (List.length (out0 ++ [List.getD states (Int.toNat t9) (0 : Int)]))) && (decide (Int.ofNat (List.length states) = Int.ofNat (List.length states)) && true)) <|
           again (states) (out0 ++ [List.getD states (Int.toNat t9) (0 : Int)]) (out1 ++ [(1 : Int)]) (x150) (t8))))
    (chk (decide (Int.ofNat (List.length out0) = Int.ofNat (List.length out0)) && true) <|
     kx 0 [.li (states), .li (out0), .li (out1)])
def vec_Of_3_L {α : Type} (kx : Nat → List Leaf → Option α) (kr : List Leaf → Option α) : Nat → List Int → List Int → List Int → Int → Int → Option α
  | 0, _, _, _, _, _ => none
  | n + 1, states, out0, out1, t9, t8 => vec_Of_3_B  kx kr (vec_Of_3_L kx kr n) states out0 out1 t9 t8
def vec_Of_3_F (L3 : ({β : Type} → (Nat → List Leaf → Option β) → (List Leaf → Option β) → Nat → List Int → List Int → List Int → Int → Int → Option β)) {α : Type} (n : Nat) (ls : List Leaf) (kx : Nat → List Leaf → Option α) (kr : List Leaf → Option α) : Option α := un_li ls fun states rr => un_li rr fun out0 rr => un_li rr fun out1 rr => un_i rr fun t9 rr => un_i rr fun t8 rr => un_nil rr (L3 kx kr n states out0 out1 t9 t8)
def vec_Of_d (L3 : ({β : Type} → (Nat → List Leaf → Option β) → (List Leaf → Option β) → Nat → List Int → List Int → List Int → Int → Int → Option β)) (states : List Int) : Option (List Leaf) :=
  one (Int.ofNat (List.length states)) fun x151 =>
  chk (decide ((0 : Int) = Int.ofNat (0 : Nat)) && (decide (Int.ofNat (List.length states) = Int.ofNat (List.length states)) && true)) <|
  L3
    (fun i152 r153 =>
     br (Nat.beq 0 i152)
       (un_li r153 fun x154 r155 =>
        un_li r155 fun x156 r157 =>
        un_li r157 fun x158 r159 =>
        un_nil r159 <|
        chk (decide (Int.ofNat (List.length x156) = Int.ofNat (List.length x156)) && true) <|
        some [.li (x156), .li (x158)])
       (none))
    (fun r160 =>
     un_li r160 fun x161 r162 =>
     un_li r162 fun x163 r164 =>
     un_li r164 fun x165 r166 =>
     un_nil r166 <|
     chk (decide (Int.ofNat (List.length x163) = Int.ofNat (List.length x163)) && true) <|
     some [.li (x163), .li (x165)])
    top (states) ([]) ([]) (0) (x151)
def vec_Of (states : List Int) : Option (List Leaf) := vec_Of_d @vec_Of_3_L states
def vec_Get_3_B  {α : Type} (kx : Nat → List Leaf → Option α) (kr : List Leaf → Option α) (again : List Int → List Int → Int → ByteArray → Int → Option α) (out0 : List Int) (out1 : List Int) (t9 : Int) (s : ByteArray) (t8 : Int) : Option α :=
  br (decide (t9 < t8))
    (chk (decide (0 ≤ t9 ∧ t9 < (↑(ByteArray.size s) : Int))) <|
     one (bt s t9) fun x176 =>
     one (wrapI .i64 x176) fun x177 =>
     one (quoI .i64 x177 64) fun x178 =>
     chk (decide (0 ≤ t9 ∧ t9 < (↑(ByteArray.size s) : Int))) <|
     one (bt s t9) fun x179 =>
     one (wrapI .i64 x179) fun x180 =>
     one (remI .i64 x180 64) fun x181 =>
     one (addI .i64 x181 1) fun x182 =>
     br (x178 == 2)
       (chk (decide ((0 : Int) = Int.ofNat (0 : Nat)) && true) <|
        kr [.li ([]), .li ([]), .b (false)])
       (chk (decide (Int.ofNat (List.length out0) = Int.ofNat (List.length out0)) && true && decide ((Int.ofNat (List.length out0) + (↑(1 : Nat) : Int)) * (↑(nat_lit 16) : Int) ≤ (140737488355328 : Int) ∧ Int.ofNat (List.length out0) + (↑(1 : Nat) : Int) ≤ (4611686018427387904 : Int))) <|
        one (addI .i64 t9 1) fun x183 =>
        chk (decide (Int.ofNat (List.length out0) + (↑(1 : Nat) : Int) = Int.ofNat (List.length (out0 ++ [x178]))) && true) <|
        again (out0 ++ [x178]) (out1 ++ [x182]) (x183) (s) (t8)))
    (chk (decide (Int.ofNat (List.length out0) = Int.ofNat (List.length out0)) && true) <|
     kx 0 [.li (out0), .li (out1)])
def vec_Get_3_L {α : Type} (kx : Nat → List Leaf → Option α) (kr : List Leaf → Option α) : Nat → List Int → List Int → Int → ByteArray → Int → Option α
  | 0, _, _, _, _, _ => none
  | n + 1, out0, out1, t9, s, t8 => vec_Get_3_B  kx kr (vec_Get_3_L kx kr n) out0 out1 t9 s t8
def vec_Get_3_F (L3 : ({β : Type} → (Nat → List Leaf → Option β) → (List Leaf → Option β) → Nat → List Int → List Int → Int → ByteArray → Int → Option β)) {α : Type} (n : Nat) (ls : List Leaf) (kx : Nat → List Leaf → Option α) (kr : List Leaf → Option α) : Option α := un_li ls fun out0 rr => un_li rr fun out1 rr => un_i rr fun t9 rr => un_s rr fun s rr => un_i rr fun t8 rr => un_nil rr (L3 kx kr n out0 out1 t9 s t8)
def vec_Get_d (L3 : ({β : Type} → (Nat → List Leaf → Option β) → (List Leaf → Option β) → Nat → List Int → List Int → Int → ByteArray → Int → Option β)) (s : ByteArray) : Option (List Leaf) :=
  one ((↑(ByteArray.size s) : Int)) fun x184 =>
  chk (decide ((0 : Int) = Int.ofNat (0 : Nat)) && true) <|
  L3
    (fun i185 r186 =>
     br (Nat.beq 0 i185)
       (un_li r186 fun x187 r188 =>
        un_li r188 fun x189 r190 =>
        un_nil r190 <|
        chk (decide (Int.ofNat (List.length x187) = Int.ofNat (List.length x187)) && true && true) <|
        some [.li (x187), .li (x189), .b (true)])
       (none))
    (fun r191 =>
     un_li r191 fun x192 r193 =>
     un_li r193 fun x194 r195 =>
     un_b r195 fun x196 r197 =>
     un_nil r197 <|
     chk (decide (Int.ofNat (List.length x192) = Int.ofNat (List.length x192)) && true && true) <|
     some [.li (x192), .li (x194), .b (x196)])
    top ([]) ([]) (0) (s) (x184)
def vec_Get (s : ByteArray) : Option (List Leaf) := vec_Get_d @vec_Get_3_L s
end Go.Sx.T

