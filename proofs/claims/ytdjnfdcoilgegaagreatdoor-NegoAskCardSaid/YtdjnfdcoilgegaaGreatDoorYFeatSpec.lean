import Derived.Test.YtdjnfdcoilgegaaGreatDoorYLowSpec
set_option linter.all false
namespace Go.Sx.T
open Go Go.Sx
def law1_Text (s : ByteArray) (n2 : Int) : Option (List Leaf) :=
  one ((↑(ByteArray.size s) : Int)) fun x23 =>
  one (minI x23 n2) fun x24 =>
  chk (condSl (↑(ByteArray.size s) : Int) Option.none (Option.some x24)) <|
  some [.s (strSlO s Option.none (Option.some x24))]
def opt_Number_5_B  {α : Type} (kx : Nat → List Leaf → Option α) (kr : List Leaf → Option α) (again : Int → ByteArray → Int → Int → Option α) (t16 : Int) (s : ByteArray) (n2 : Int) (t15 : Int) : Option α :=
  br (decide (t16 < t15))
    (one (shlI .u64 n2 8) fun x33 =>
     chk (decide (0 ≤ t16 ∧ t16 < (↑(ByteArray.size s) : Int))) <|
     one (bt s t16) fun x34 =>
     one (wrapI .u64 x34) fun x35 =>
     one (orI .u64 x33 x35) fun x36 =>
     one (addI .i64 t16 1) fun x37 =>
     again (x37) (s) (x36) (t15))
    (kx 0 [.i (n2)])
def opt_Number_5_L {α : Type} (kx : Nat → List Leaf → Option α) (kr : List Leaf → Option α) : Nat → Int → ByteArray → Int → Int → Option α
  | 0, _, _, _, _ => none
  | n + 1, t16, s, n2, t15 => opt_Number_5_B  kx kr (opt_Number_5_L kx kr n) t16 s n2 t15
def opt_Number_5_F (L5 : ({β : Type} → (Nat → List Leaf → Option β) → (List Leaf → Option β) → Nat → Int → ByteArray → Int → Int → Option β)) {α : Type} (n : Nat) (ls : List Leaf) (kx : Nat → List Leaf → Option α) (kr : List Leaf → Option α) : Option α := un_i ls fun t16 rr => un_s rr fun s rr => un_i rr fun n2 rr => un_i rr fun t15 rr => un_nil rr (L5 kx kr n t16 s n2 t15)
def opt_Number_d (L5 : ({β : Type} → (Nat → List Leaf → Option β) → (List Leaf → Option β) → Nat → Int → ByteArray → Int → Int → Option β)) (s : ByteArray) : Option (List Leaf) :=
  one ((↑(ByteArray.size s) : Int)) fun x38 =>
  br (decide (x38 < 1))
    (some [.i (0), .b (false)])
    (one ((↑(ByteArray.size s) : Int)) fun x39 =>
     br (decide (x39 > 8))
       (some [.i (0), .b (false)])
       (one ((↑(ByteArray.size s) : Int)) fun x40 =>
        L5
          (fun i41 r42 =>
           br (Nat.beq 0 i41)
             (un_i r42 fun x43 r44 =>
              un_nil r44 <|
              some [.i (x43), .b (true)])
             (none))
          (fun r45 =>
           un_nil r45 <|
           none)
          top (0) (s) (0) (x40)))
def opt_Number (s : ByteArray) : Option (List Leaf) := opt_Number_d @opt_Number_5_L s
def feat_Number (v : ByteArray) : Option (List Leaf) :=
  out (opt_Number v) fun r46 =>
  un_i r46 fun x47 r48 =>
  un_b r48 fun x49 r50 =>
  un_nil r50 <|
  one (x47) fun x51 =>
  some [.i (x51), .b (x49)]
def feat_List (f : Int) : Option (List Leaf) :=
  br (f == 1)
    (some [.b (true)])
    (br (f == 6)
       (some [.b (true)])
       (some [.b (f == 8)]))
def feat_Known (f : Int) : Option (List Leaf) :=
  out (feat_List f) fun r52 =>
  un_b r52 fun x53 r54 =>
  un_nil r54 <|
  br (x53)
    (some [.b (true)])
    (some [.b (f == 3)])
def feat_limits (f : Int) : Option (List Leaf) :=
  br (f == 1)
    (some [.i (4), .i (2), .i (3)])
    (br (f == 6)
       (some [.i (4), .i (0), .i (1)])
       (some [.i (16), .i (0), .i (15)]))
def sl_IndexByte (s : ByteArray) (c : Int) : Option (List Leaf) :=
  some [.i (idxB s.data.toList (Nat.toUInt8 (Int.toNat c)) 0)]
def str_IndexByte (s : ByteArray) (c : Int) : Option (List Leaf) :=
  out (sl_IndexByte s c) fun r55 =>
  un_i r55 fun x56 r57 =>
  un_nil r57 <|
  some [.i (x56)]
def feat_May_8_B  {α : Type} (kx : Nat → List Leaf → Option α) (kr : List Leaf → Option α) (again : Int → ByteArray → Int → Int → Int → Option α) (t51 : Int) (v : ByteArray) (high : Int) (low : Int) (t50 : Int) : Option α :=
  br (decide (t51 < t50))
    (chk (decide (0 ≤ t51 ∧ t51 < (↑(ByteArray.size v) : Int))) <|
     one (bt v t51) fun x88 =>
     br (decide (x88 < low))
       (kr [.b (false)])
       (chk (decide (0 ≤ t51 ∧ t51 < (↑(ByteArray.size v) : Int))) <|
        one (bt v t51) fun x89 =>
        br (decide (x89 > high))
          (kr [.b (false)])
          (chk (condSl (↑(ByteArray.size v) : Int) Option.none (Option.some t51)) <|
           chk (decide (0 ≤ t51 ∧ t51 < (↑(ByteArray.size v) : Int))) <|
           one (bt v t51) fun x90 =>
           out (str_IndexByte (strSlO v Option.none (Option.some t51)) x90) fun r91 =>
           un_i r91 fun x92 r93 =>
           un_nil r93 <|
           br (decide (x92 ≥ 0))
             (kr [.b (false)])
             (one (addI .i64 t51 1) fun x94 =>
              again (x94) (v) (high) (low) (t50)))))
    (kx 0 [])
def feat_May_8_L {α : Type} (kx : Nat → List Leaf → Option α) (kr : List Leaf → Option α) : Nat → Int → ByteArray → Int → Int → Int → Option α
  | 0, _, _, _, _, _ => none
  | n + 1, t51, v, high, low, t50 => feat_May_8_B  kx kr (feat_May_8_L kx kr n) t51 v high low t50
def feat_May_8_F (L8 : ({β : Type} → (Nat → List Leaf → Option β) → (List Leaf → Option β) → Nat → Int → ByteArray → Int → Int → Int → Option β)) {α : Type} (n : Nat) (ls : List Leaf) (kx : Nat → List Leaf → Option α) (kr : List Leaf → Option α) : Option α := un_i ls fun t51 rr => un_s rr fun v rr => un_i rr fun high rr => un_i rr fun low rr => un_i rr fun t50 rr => un_nil rr (L8 kx kr n t51 v high low t50)
def feat_May_d (L8 : ({β : Type} → (Nat → List Leaf → Option β) → (List Leaf → Option β) → Nat → Int → ByteArray → Int → Int → Int → Option β)) (f : Int) (v : ByteArray) : Option (List Leaf) :=
  br (f == 3)
    (out (feat_Number v) fun r95 =>
     un_i r95 fun x96 r97 =>
     un_b r97 fun x98 r99 =>
     un_nil r99 <|
     one (x96) fun x100 =>
     one ((↑(ByteArray.size v) : Int)) fun x101 =>
     br (x101 == 6)
       (br (decide (x100 ≥ 32))
          (some [.b (decide (x100 ≤ 1000))])
          (some [.b (false)]))
       (some [.b (false)]))
    (out (feat_limits f) fun r102 =>
     un_i r102 fun x103 r104 =>
     un_i r104 fun x105 r106 =>
     un_i r106 fun x107 r108 =>
     un_nil r108 <|
     one (x103) fun x109 =>
     one (x105) fun x110 =>
     one (x107) fun x111 =>
     out (feat_List f) fun r112 =>
     un_b r112 fun x113 r114 =>
     un_nil r114 <|
     br (!x113)
       (some [.b (false)])
       (one ((↑(ByteArray.size v) : Int)) fun x115 =>
        br (decide (x115 < 1))
          (some [.b (false)])
          (one ((↑(ByteArray.size v) : Int)) fun x116 =>
           br (decide (x116 > x109))
             (some [.b (false)])
             (one ((↑(ByteArray.size v) : Int)) fun x117 =>
              L8
                (fun i118 r119 =>
                 br (Nat.beq 0 i118)
                   (un_nil r119 <|
                    some [.b (true)])
                   (none))
                (fun r120 =>
                 un_b r120 fun x121 r122 =>
                 un_nil r122 <|
                 some [.b (x121)])
                top (0) (v) (x111) (x110) (x117)))))
def feat_May (f : Int) (v : ByteArray) : Option (List Leaf) := feat_May_d @feat_May_8_L f v
def feat_Choose_8_B  {α : Type} (kx : Nat → List Leaf → Option α) (kr : List Leaf → Option α) (again : ByteArray → Int → ByteArray → Int → Option α) (server : ByteArray) (t28 : Int) (client : ByteArray) (t27 : Int) : Option α :=
  br (decide (t28 < t27))
    (chk (decide (0 ≤ t28 ∧ t28 < (↑(ByteArray.size server) : Int))) <|
     one (bt server t28) fun x139 =>
     out (str_IndexByte client x139) fun r140 =>
     un_i r140 fun x141 r142 =>
     un_nil r142 <|
     br (decide (x141 ≥ 0))
       (one (addI .i64 t28 1) fun x143 =>
        chk (condSl (↑(ByteArray.size server) : Int) (Option.some t28) (Option.some x143)) <|
        kr [.s (strSlO server (Option.some t28) (Option.some x143)), .b (true)])
       (one (addI .i64 t28 1) fun x144 =>
        again (server) (x144) (client) (t27)))
    (kx 0 [])
def feat_Choose_8_L {α : Type} (kx : Nat → List Leaf → Option α) (kr : List Leaf → Option α) : Nat → ByteArray → Int → ByteArray → Int → Option α
  | 0, _, _, _, _ => none
  | n + 1, server, t28, client, t27 => feat_Choose_8_B  kx kr (feat_Choose_8_L kx kr n) server t28 client t27
def feat_Choose_8_F (L8 : ({β : Type} → (Nat → List Leaf → Option β) → (List Leaf → Option β) → Nat → ByteArray → Int → ByteArray → Int → Option β)) {α : Type} (n : Nat) (ls : List Leaf) (kx : Nat → List Leaf → Option α) (kr : List Leaf → Option α) : Option α := un_s ls fun server rr => un_i rr fun t28 rr => un_s rr fun client rr => un_i rr fun t27 rr => un_nil rr (L8 kx kr n server t28 client t27)
def feat_Choose_d (L8 : ({β : Type} → (Nat → List Leaf → Option β) → (List Leaf → Option β) → Nat → ByteArray → Int → ByteArray → Int → Option β)) (f : Int) (server : ByteArray) (client : ByteArray) : Option (List Leaf) :=
  br (f == 3)
    (out (feat_May f client) fun r145 =>
     un_b r145 fun x146 r147 =>
     un_nil r147 <|
     br (!x146)
       (some [.s ({ data := #[] }), .b (false)])
       (some [.s (client), .b (true)]))
    (out (feat_May f server) fun r148 =>
     un_b r148 fun x149 r150 =>
     un_nil r150 <|
     br (!x149)
       (some [.s ({ data := #[] }), .b (false)])
       (out (feat_May f client) fun r151 =>
        un_b r151 fun x152 r153 =>
        un_nil r153 <|
        br (!x152)
          (some [.s ({ data := #[] }), .b (false)])
          (one ((↑(ByteArray.size server) : Int)) fun x154 =>
           L8
             (fun i155 r156 =>
              br (Nat.beq 0 i155)
                (un_nil r156 <|
                 some [.s ({ data := #[] }), .b (false)])
                (none))
             (fun r157 =>
              un_s r157 fun x158 r159 =>
              un_b r159 fun x160 r161 =>
              un_nil r161 <|
              some [.s (x158), .b (x160)])
             top (server) (0) (client) (x154))))
def feat_Choose (f : Int) (server : ByteArray) (client : ByteArray) : Option (List Leaf) := feat_Choose_d @feat_Choose_8_L f server client
def opt_Bytes_5_B  {α : Type} (kx : Nat → List Leaf → Option α) (kr : List Leaf → Option α) (again : List Int → Int → Int → Option α) (b : List Int) (i : Int) (n2 : Int) : Option α :=
  br (decide (i ≥ 0))
    (one (mulI .i64 8 i) fun x167 =>
     chk (decide (0 ≤ x167)) <|
     one (shrI .u64 n2 x167) fun x168 =>
     one (wrapI .u8 x168) fun x169 =>
     chk (decide (Int.ofNat (List.length b) = Int.ofNat (List.length b)) && true && decide ((Int.ofNat (List.length b) + (↑(1 : Nat) : Int)) * (↑(nat_lit 1) : Int) ≤ (140737488355328 : Int) ∧ Int.ofNat (List.length b) + (↑(1 : Nat) : Int) ≤ (4611686018427387904 : Int))) <|
     one (subI .i64 i 1) fun x170 =>
     chk (decide (Int.ofNat (List.length b) + (↑(1 : Nat) : Int) = Int.ofNat (List.length (b ++ [x169]))) && true) <|
     again (b ++ [x169]) (x170) (n2))
    (chk (decide (Int.ofNat (List.length b) = Int.ofNat (List.length b)) && true) <|
     kx 0 [.li (b)])
def opt_Bytes_5_L {α : Type} (kx : Nat → List Leaf → Option α) (kr : List Leaf → Option α) : Nat → List Int → Int → Int → Option α
  | 0, _, _, _ => none
  | n + 1, b, i, n2 => opt_Bytes_5_B  kx kr (opt_Bytes_5_L kx kr n) b i n2
def opt_Bytes_5_F (L5 : ({β : Type} → (Nat → List Leaf → Option β) → (List Leaf → Option β) → Nat → List Int → Int → Int → Option β)) {α : Type} (n : Nat) (ls : List Leaf) (kx : Nat → List Leaf → Option α) (kr : List Leaf → Option α) : Option α := un_li ls fun b rr => un_i rr fun i rr => un_i rr fun n2 rr => un_nil rr (L5 kx kr n b i n2)
def opt_Bytes_d (L5 : ({β : Type} → (Nat → List Leaf → Option β) → (List Leaf → Option β) → Nat → List Int → Int → Int → Option β)) (n2 : Int) (k : Int) : Option (List Leaf) :=
  br (decide (k < 1))
    (some [.s ({ data := #[] })])
    (br (decide (k > 8))
       (some [.s ({ data := #[] })])
       (one (subI .i64 k 1) fun x171 =>
        chk (decide ((0 : Int) = Int.ofNat (0 : Nat)) && true) <|
        L5
          (fun i172 r173 =>
           br (Nat.beq 0 i172)
             (un_li r173 fun x174 r175 =>
              un_nil r175 <|
              chk (rowIn Option.none (Int.ofNat (List.length x174)) (Int.ofNat (List.length x174))) <|
              some [.s (strOfI (partL Option.none (Int.ofNat (List.length x174)) x174))])
             (none))
          (fun r176 =>
           un_nil r176 <|
           none)
          top ([]) (x171) (n2)))
def opt_Bytes (n2 : Int) (k : Int) : Option (List Leaf) := opt_Bytes_d @opt_Bytes_5_L n2 k
def feat_Default (f : Int) : Option (List Leaf) :=
  br (f == 1)
    (some [.s ({ data := #[2] })])
    (br (f == 6)
       (br (f == 6)
          (some [.s ({ data := #[0] })])
          (br (f == 3)
             (out (opt_Bytes 100 6) fun r177 =>
              un_s r177 fun x178 r179 =>
              un_nil r179 <|
              some [.s (x178)])
             (some [.s ({ data := #[] })])))
       (br (f == 8)
          (some [.s ({ data := #[0] })])
          (br (f == 3)
             (out (opt_Bytes 100 6) fun r180 =>
              un_s r180 fun x181 r182 =>
              un_nil r182 <|
              some [.s (x181)])
             (some [.s ({ data := #[] })]))))
end Go.Sx.T

