import Derived.Test.YtdjnfdcoilgegaaGreatDoorYLowSpec
set_option linter.all false
namespace Go.Sx.T
open Go Go.Sx
def ref_Bytes_2_B  {α : Type} (kx : Nat → List Leaf → Option α) (kr : List Leaf → Option α) (again : Int → Int → ByteArray → Option α) (k : Int) (n2 : Int) (s : ByteArray) : Option α :=
  br (decide (k > 0))
    (one (remI .u64 n2 256) fun x832 =>
     one (wrapI .u8 x832) fun x833 =>
     chk (Nat.ble (ByteArray.size (strOfI (partL Option.none (↑(1 : Nat) : Int) [x833])) + ByteArray.size s) (9223372036854775807 : Nat)) <|
     one (quoI .u64 n2 256) fun x834 =>
     one (subI .i64 k 1) fun x835 =>
     again (x835) (x834) (strOfI (partL Option.none (↑(1 : Nat) : Int) [x833]) ++ s))
    (kx 0 [.s (s)])
def ref_Bytes_2_L {α : Type} (kx : Nat → List Leaf → Option α) (kr : List Leaf → Option α) : Nat → Int → Int → ByteArray → Option α
  | 0, _, _, _ => none
  | n + 1, k, n2, s => ref_Bytes_2_B  kx kr (ref_Bytes_2_L kx kr n) k n2 s
def ref_Bytes_2_F (L2 : ({β : Type} → (Nat → List Leaf → Option β) → (List Leaf → Option β) → Nat → Int → Int → ByteArray → Option β)) {α : Type} (n : Nat) (ls : List Leaf) (kx : Nat → List Leaf → Option α) (kr : List Leaf → Option α) : Option α := un_i ls fun k rr => un_i rr fun n2 rr => un_s rr fun s rr => un_nil rr (L2 kx kr n k n2 s)
def ref_Bytes_d (L2 : ({β : Type} → (Nat → List Leaf → Option β) → (List Leaf → Option β) → Nat → Int → Int → ByteArray → Option β)) (n2 : Int) (k : Int) : Option (List Leaf) :=
  L2
    (fun i836 r837 =>
     br (Nat.beq 0 i836)
       (un_s r837 fun x838 r839 =>
        un_nil r839 <|
        some [.s (x838)])
       (none))
    (fun r840 =>
     un_nil r840 <|
     none)
    top (k) (n2) ({ data := #[] })
def ref_Bytes (n2 : Int) (k : Int) : Option (List Leaf) := ref_Bytes_d @ref_Bytes_2_L n2 k
def ref_Number_3_B  {α : Type} (kx : Nat → List Leaf → Option α) (kr : List Leaf → Option α) (again : Int → ByteArray → Int → Option α) (i : Int) (s : ByteArray) (n2 : Int) : Option α :=
  one ((↑(ByteArray.size s) : Int)) fun x847 =>
  br (decide (i < x847))
    (one (mulI .u64 n2 256) fun x848 =>
     chk (decide (0 ≤ i ∧ i < (↑(ByteArray.size s) : Int))) <|
     one (bt s i) fun x849 =>
     one (wrapI .u64 x849) fun x850 =>
     one (addI .u64 x848 x850) fun x851 =>
     one (addI .i64 i 1) fun x852 =>
     again (x852) (s) (x851))
    (kx 0 [.i (n2)])
def ref_Number_3_L {α : Type} (kx : Nat → List Leaf → Option α) (kr : List Leaf → Option α) : Nat → Int → ByteArray → Int → Option α
  | 0, _, _, _ => none
  | n + 1, i, s, n2 => ref_Number_3_B  kx kr (ref_Number_3_L kx kr n) i s n2
def ref_Number_3_F (L3 : ({β : Type} → (Nat → List Leaf → Option β) → (List Leaf → Option β) → Nat → Int → ByteArray → Int → Option β)) {α : Type} (n : Nat) (ls : List Leaf) (kx : Nat → List Leaf → Option α) (kr : List Leaf → Option α) : Option α := un_i ls fun i rr => un_s rr fun s rr => un_i rr fun n2 rr => un_nil rr (L3 kx kr n i s n2)
def ref_Number_d (L3 : ({β : Type} → (Nat → List Leaf → Option β) → (List Leaf → Option β) → Nat → Int → ByteArray → Int → Option β)) (s : ByteArray) : Option (List Leaf) :=
  L3
    (fun i853 r854 =>
     br (Nat.beq 0 i853)
       (un_i r854 fun x855 r856 =>
        un_nil r856 <|
        some [.i (x855)])
       (none))
    (fun r857 =>
     un_nil r857 <|
     none)
    top (0) (s) (0)
def ref_Number (s : ByteArray) : Option (List Leaf) := ref_Number_d @ref_Number_3_L s
def r18_Known (f : Int) : Option (List Leaf) :=
  br (f == 1)
    (some [.b (true)])
    (br (f == 3)
       (some [.b (true)])
       (br (f == 6)
          (some [.b (true)])
          (some [.b (f == 8)])))
def r18_bounds (f : Int) : Option (List Leaf) :=
  br (f == 1)
    (some [.i (2), .i (3), .i (4)])
    (br (f == 6)
       (some [.i (0), .i (1), .i (4)])
       (some [.i (0), .i (15), .i (16)]))
def r18_May_14_B  {α : Type} (kx : Nat → List Leaf → Option α) (kr : List Leaf → Option α) (again : Int → Int → ByteArray → Bool → Int → Int → Int → ByteArray → Int → Int → Option α) (k : Int) (i : Int) (v : ByteArray) (t59 : Bool) (t57 : Int) (t58 : Int) (high : Int) (t55 : ByteArray) (t56 : Int) (low : Int) : Option α :=
  br (decide (k < i))
    (chk (decide (0 ≤ k ∧ k < (↑(ByteArray.size v) : Int))) <|
     one (bt v k) fun x886 =>
     chk (decide (0 ≤ i ∧ i < (↑(ByteArray.size v) : Int))) <|
     one (bt v i) fun x887 =>
     br (x886 == x887)
       (kr [.b (false)])
       (one (addI .i64 k 1) fun x888 =>
        again (x888) (i) (v) (t59) (t57) (t58) (high) (t55) (t56) (low)))
    (kx 2 [.s (v), .b (t59), .i (t57), .i (t58), .i (high), .s (t55), .i (t56), .i (low), .i (i)])
def r18_May_14_L {α : Type} (kx : Nat → List Leaf → Option α) (kr : List Leaf → Option α) : Nat → Int → Int → ByteArray → Bool → Int → Int → Int → ByteArray → Int → Int → Option α
  | 0, _, _, _, _, _, _, _, _, _, _ => none
  | n + 1, k, i, v, t59, t57, t58, high, t55, t56, low => r18_May_14_B  kx kr (r18_May_14_L kx kr n) k i v t59 t57 t58 high t55 t56 low
def r18_May_14_F (L14 : ({β : Type} → (Nat → List Leaf → Option β) → (List Leaf → Option β) → Nat → Int → Int → ByteArray → Bool → Int → Int → Int → ByteArray → Int → Int → Option β)) {α : Type} (n : Nat) (ls : List Leaf) (kx : Nat → List Leaf → Option α) (kr : List Leaf → Option α) : Option α := un_i ls fun k rr => un_i rr fun i rr => un_s rr fun v rr => un_b rr fun t59 rr => un_i rr fun t57 rr => un_i rr fun t58 rr => un_i rr fun high rr => un_s rr fun t55 rr => un_i rr fun t56 rr => un_i rr fun low rr => un_nil rr (L14 kx kr n k i v t59 t57 t58 high t55 t56 low)
def r18_May_9_B (L14 : ({β : Type} → (Nat → List Leaf → Option β) → (List Leaf → Option β) → Nat → Int → Int → ByteArray → Bool → Int → Int → Int → ByteArray → Int → Int → Option β)) {α : Type} (kx : Nat → List Leaf → Option α) (kr : List Leaf → Option α) (again : Int → ByteArray → Int → Int → Option α) (i : Int) (v : ByteArray) (high : Int) (low : Int) : Option α :=
  one ((↑(ByteArray.size v) : Int)) fun x916 =>
  br (decide (i < x916))
    (chk (decide (0 ≤ i ∧ i < (↑(ByteArray.size v) : Int))) <|
     one (bt v i) fun x917 =>
     br (decide (x917 < low))
       (kr [.b (false)])
       (chk (decide (0 ≤ i ∧ i < (↑(ByteArray.size v) : Int))) <|
        one (bt v i) fun x918 =>
        br (decide (x918 > high))
          (kr [.b (false)])
          (L14
             (fun i919 r920 =>
              br (Nat.beq 2 i919)
                (un_s r920 fun x921 r922 =>
                 un_b r922 fun x923 r924 =>
                 un_i r924 fun x925 r926 =>
                 un_i r926 fun x927 r928 =>
                 un_i r928 fun x929 r930 =>
                 un_s r930 fun x931 r932 =>
                 un_i r932 fun x933 r934 =>
                 un_i r934 fun x935 r936 =>
                 un_i r936 fun x937 r938 =>
                 un_nil r938 <|
                 one (addI .i64 x937 1) fun x939 =>
                 again (x939) (x921) (x929) (x935))
                (none))
             (fun r940 =>
              un_b r940 fun x941 r942 =>
              un_nil r942 <|
              kr [.b (x941)])
             top (0) (i) (v) (decide (x918 > high)) (x918) (high) (high) (v) (i) (low))))
    (kx 0 [])
def r18_May_9_L {α : Type} (kx : Nat → List Leaf → Option α) (kr : List Leaf → Option α) : Nat → Int → ByteArray → Int → Int → Option α
  | 0, _, _, _, _ => none
  | n + 1, i, v, high, low => r18_May_9_B @r18_May_14_L kx kr (r18_May_9_L kx kr n) i v high low
def r18_May_9_F (L9 : ({β : Type} → (Nat → List Leaf → Option β) → (List Leaf → Option β) → Nat → Int → ByteArray → Int → Int → Option β)) {α : Type} (n : Nat) (ls : List Leaf) (kx : Nat → List Leaf → Option α) (kr : List Leaf → Option α) : Option α := un_i ls fun i rr => un_s rr fun v rr => un_i rr fun high rr => un_i rr fun low rr => un_nil rr (L9 kx kr n i v high low)
def r18_May_d (L9 : ({β : Type} → (Nat → List Leaf → Option β) → (List Leaf → Option β) → Nat → Int → ByteArray → Int → Int → Option β)) (f : Int) (v : ByteArray) : Option (List Leaf) :=
  out (r18_Known f) fun r943 =>
  un_b r943 fun x944 r945 =>
  un_nil r945 <|
  br (!x944)
    (some [.b (false)])
    (br (f == 3)
       (one ((↑(ByteArray.size v) : Int)) fun x946 =>
        br (x946 == 6)
          (out (ref_Number v) fun r947 =>
           un_i r947 fun x948 r949 =>
           un_nil r949 <|
           br (decide (x948 ≥ 32))
             (out (ref_Number v) fun r950 =>
              un_i r950 fun x951 r952 =>
              un_nil r952 <|
              some [.b (decide (x951 ≤ 1000))])
             (some [.b (false)]))
          (some [.b (false)]))
       (out (r18_bounds f) fun r953 =>
        un_i r953 fun x954 r955 =>
        un_i r955 fun x956 r957 =>
        un_i r957 fun x958 r959 =>
        un_nil r959 <|
        one (x954) fun x960 =>
        one (x956) fun x961 =>
        one (x958) fun x962 =>
        one ((↑(ByteArray.size v) : Int)) fun x963 =>
        br (decide (x963 < 1))
          (some [.b (false)])
          (one ((↑(ByteArray.size v) : Int)) fun x964 =>
           br (decide (x964 > x962))
             (some [.b (false)])
             (L9
                (fun i965 r966 =>
                 br (Nat.beq 0 i965)
                   (un_nil r966 <|
                    some [.b (true)])
                   (none))
                (fun r967 =>
                 un_b r967 fun x968 r969 =>
                 un_nil r969 <|
                 some [.b (x968)])
                top (0) (v) (x961) (x960)))))
def r18_May (f : Int) (v : ByteArray) : Option (List Leaf) := r18_May_d @r18_May_9_L f v
def r18_has_2_B  {α : Type} (kx : Nat → List Leaf → Option α) (kr : List Leaf → Option α) (again : Int → Int → ByteArray → Option α) (i : Int) (c : Int) (s : ByteArray) : Option α :=
  one ((↑(ByteArray.size s) : Int)) fun x973 =>
  br (decide (i < x973))
    (chk (decide (0 ≤ i ∧ i < (↑(ByteArray.size s) : Int))) <|
     one (bt s i) fun x974 =>
     br (x974 == c)
       (kr [.b (true)])
       (one (addI .i64 i 1) fun x975 =>
        again (x975) (c) (s)))
    (kx 0 [])
def r18_has_2_L {α : Type} (kx : Nat → List Leaf → Option α) (kr : List Leaf → Option α) : Nat → Int → Int → ByteArray → Option α
  | 0, _, _, _ => none
  | n + 1, i, c, s => r18_has_2_B  kx kr (r18_has_2_L kx kr n) i c s
def r18_has_2_F (L2 : ({β : Type} → (Nat → List Leaf → Option β) → (List Leaf → Option β) → Nat → Int → Int → ByteArray → Option β)) {α : Type} (n : Nat) (ls : List Leaf) (kx : Nat → List Leaf → Option α) (kr : List Leaf → Option α) : Option α := un_i ls fun i rr => un_i rr fun c rr => un_s rr fun s rr => un_nil rr (L2 kx kr n i c s)
def r18_has_d (L2 : ({β : Type} → (Nat → List Leaf → Option β) → (List Leaf → Option β) → Nat → Int → Int → ByteArray → Option β)) (s : ByteArray) (c : Int) : Option (List Leaf) :=
  L2
    (fun i976 r977 =>
     br (Nat.beq 0 i976)
       (un_nil r977 <|
        some [.b (false)])
       (none))
    (fun r978 =>
     un_b r978 fun x979 r980 =>
     un_nil r980 <|
     some [.b (x979)])
    top (0) (c) (s)
def r18_has (s : ByteArray) (c : Int) : Option (List Leaf) := r18_has_d @r18_has_2_L s c
def r18_Choose_8_B  {α : Type} (kx : Nat → List Leaf → Option α) (kr : List Leaf → Option α) (again : Int → ByteArray → ByteArray → Option α) (i : Int) (server : ByteArray) (client : ByteArray) : Option α :=
  one ((↑(ByteArray.size server) : Int)) fun x997 =>
  br (decide (i < x997))
    (chk (decide (0 ≤ i ∧ i < (↑(ByteArray.size server) : Int))) <|
     one (bt server i) fun x998 =>
     out (r18_has client x998) fun r999 =>
     un_b r999 fun x1000 r1001 =>
     un_nil r1001 <|
     br (x1000)
       (one (addI .i64 i 1) fun x1002 =>
        chk (condSl (↑(ByteArray.size server) : Int) (Option.some i) (Option.some x1002)) <|
        kr [.s (strSlO server (Option.some i) (Option.some x1002)), .b (true)])
       (one (addI .i64 i 1) fun x1003 =>
        again (x1003) (server) (client)))
    (kx 0 [])
def r18_Choose_8_L {α : Type} (kx : Nat → List Leaf → Option α) (kr : List Leaf → Option α) : Nat → Int → ByteArray → ByteArray → Option α
  | 0, _, _, _ => none
  | n + 1, i, server, client => r18_Choose_8_B  kx kr (r18_Choose_8_L kx kr n) i server client
def r18_Choose_8_F (L8 : ({β : Type} → (Nat → List Leaf → Option β) → (List Leaf → Option β) → Nat → Int → ByteArray → ByteArray → Option β)) {α : Type} (n : Nat) (ls : List Leaf) (kx : Nat → List Leaf → Option α) (kr : List Leaf → Option α) : Option α := un_i ls fun i rr => un_s rr fun server rr => un_s rr fun client rr => un_nil rr (L8 kx kr n i server client)
def r18_Choose_d (L8 : ({β : Type} → (Nat → List Leaf → Option β) → (List Leaf → Option β) → Nat → Int → ByteArray → ByteArray → Option β)) (f : Int) (server : ByteArray) (client : ByteArray) : Option (List Leaf) :=
  br (f == 3)
    (out (r18_May f client) fun r1004 =>
     un_b r1004 fun x1005 r1006 =>
     un_nil r1006 <|
     br (x1005)
       (some [.s (client), .b (true)])
       (some [.s ({ data := #[] }), .b (false)]))
    (out (r18_May f server) fun r1007 =>
     un_b r1007 fun x1008 r1009 =>
     un_nil r1009 <|
     br (!x1008)
       (some [.s ({ data := #[] }), .b (false)])
       (out (r18_May f client) fun r1010 =>
        un_b r1010 fun x1011 r1012 =>
        un_nil r1012 <|
        br (!x1011)
          (some [.s ({ data := #[] }), .b (false)])
          (L8
             (fun i1013 r1014 =>
              br (Nat.beq 0 i1013)
                (un_nil r1014 <|
                 some [.s ({ data := #[] }), .b (false)])
                (none))
             (fun r1015 =>
              un_s r1015 fun x1016 r1017 =>
              un_b r1017 fun x1018 r1019 =>
              un_nil r1019 <|
              some [.s (x1016), .b (x1018)])
             top (0) (server) (client))))
def r18_Choose (f : Int) (server : ByteArray) (client : ByteArray) : Option (List Leaf) := r18_Choose_d @r18_Choose_8_L f server client
end Go.Sx.T

