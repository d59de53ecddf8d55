import Derived.Test.YtfcaemjklnelhaaGreatDoorYCelSpec
set_option linter.all false
namespace Go.Sx.T
open Go Go.Sx
def VecLong_7_B  {α : Type} (kx : Nat → List Leaf → Option α) (kr : List Leaf → Option α) (again : List Int → List Int → Int → Int → Int → Option α) (cs0 : List Int) (cs1 : List Int) (i : Int) (s : Int) (n2 : Int) : Option α :=
  br (decide (i < n2))
    (one (addI .i64 s i) fun x235 =>
     one (remI .i64 x235 3) fun x236 =>
     one (addI .i64 x236 3) fun x237 =>
     one (remI .i64 x237 3) fun x238 =>
     chk (decide (0 ≤ x238 ∧ x238 < (↑3 : Int))) <|
     chk (decide (0 ≤ x238 ∧ x238 < (↑3 : Int))) <|
     chk (decide (Int.ofNat (List.length cs0) = Int.ofNat (List.length cs0)) && true && decide ((Int.ofNat (List.length cs0) + (↑(1 : Nat) : Int)) * (↑(nat_lit 16) : Int) ≤ (140737488355328 : Int) ∧ Int.ofNat (List.length cs0) + (↑(1 : Nat) : Int) ≤ (4611686018427387904 : Int))) <|
     one (addI .i64 i 1) fun x239 =>
     chk (decide (Int.ofNat (List.length cs0) + (↑(1 : Nat) : Int) = Int.ofNat (List.length (cs0 ++ [List.getD [(0 : Int), (1 : Int), (3 : Int)] (Int.toNat x238) (0 : Int)]))) && true) <|
     again (cs0 ++ [List.getD [(0 : Int), (1 : Int), (3 : Int)] (Int.toNat x238) (0 : Int)]) (cs1 ++ [(1 : Int)]) (x239) (s) (n2))
    (chk (decide (Int.ofNat (List.length cs0) = Int.ofNat (List.length cs0)) && true) <|
     kx 0 [.li (cs0), .li (cs1), .i (n2)])
def VecLong_7_L {α : Type} (kx : Nat → List Leaf → Option α) (kr : List Leaf → Option α) : Nat → List Int → List Int → Int → Int → Int → Option α
  | 0, _, _, _, _, _ => none
  | n + 1, cs0, cs1, i, s, n2 => VecLong_7_B  kx kr (VecLong_7_L kx kr n) cs0 cs1 i s n2
def VecLong_7_F (L7 : ({β : Type} → (Nat → List Leaf → Option β) → (List Leaf → Option β) → Nat → List Int → List Int → Int → Int → Int → Option β)) {α : Type} (n : Nat) (ls : List Leaf) (kx : Nat → List Leaf → Option α) (kr : List Leaf → Option α) : Option α := un_li ls fun cs0 rr => un_li rr fun cs1 rr => un_i rr fun i rr => un_i rr fun s rr => un_i rr fun n2 rr => un_nil rr (L7 kx kr n cs0 cs1 i s n2)
def VecLong_15_B  {α : Type} (kx : Nat → List Leaf → Option α) (kr : List Leaf → Option α) (again : List Int → List Int → List ByteArray → List Int → List Int → Int → Int → Option α) (back0 : List Int) (back1 : List Int) (l : List ByteArray) (cs0 : List Int) (cs1 : List Int) (t48 : Int) (t47 : Int) : Option α :=
  br (decide (t48 < t47))
    (one (Int.ofNat (List.length l)) fun x282 =>
     one (subI .i64 x282 1) fun x283 =>
     br (decide (t48 < x283))
       (chk (decide ((0 : Int) ≤ t48 ∧ t48 < Int.ofNat (List.length l))) <|
        chk (decide ((0 : Int) ≤ t48 ∧ t48 < Int.ofNat (List.length l))) <|
        one ((↑(ByteArray.size (List.getD l (Int.toNat t48) ByteArray.empty)) : Int)) fun x284 =>
        br (x284 != 253)
          (kr [.b (false)])
          (chk (decide ((0 : Int) ≤ t48 ∧ t48 < Int.ofNat (List.length l))) <|
           chk (decide ((0 : Int) ≤ t48 ∧ t48 < Int.ofNat (List.length l))) <|
           one ((↑(ByteArray.size (List.getD l (Int.toNat t48) ByteArray.empty)) : Int)) fun x285 =>
           br (decide (x285 < 1))
             (kr [.b (false)])
             (chk (decide ((0 : Int) ≤ t48 ∧ t48 < Int.ofNat (List.length l))) <|
              chk (decide ((0 : Int) ≤ t48 ∧ t48 < Int.ofNat (List.length l))) <|
              one ((↑(ByteArray.size (List.getD l (Int.toNat t48) ByteArray.empty)) : Int)) fun x286 =>
              br (decide (x286 > 253))
                (kr [.b (false)])
                (chk (decide ((0 : Int) ≤ t48 ∧ t48 < Int.ofNat (List.length l))) <|
                 chk (decide ((0 : Int) ≤ t48 ∧ t48 < Int.ofNat (List.length l))) <|
                 out (vec_Get (List.getD l (Int.toNat t48) ByteArray.empty)) fun r287 =>
                 un_li r287 fun x288 r289 =>
                 un_li r289 fun x290 r291 =>
                 un_b r291 fun x292 r293 =>
                 un_nil r293 <|
                 br (!x292)
                   (kr [.b (false)])
                   (chk (decide (Int.ofNat (List.length back0) = Int.ofNat (List.length back0)) && decide (Int.ofNat (List.length x288) = Int.ofNat (List.length x288)) && decide ((Int.ofNat (List.length back0) + Int.ofNat (List.length x288)) * (↑(nat_lit 16) : Int) ≤ (140737488355328 : Int) ∧ Int.ofNat (List.length back0) + Int.ofNat (List.length x288) ≤ (4611686018427387904 : Int))) <|
                    one (addI .i64 t48 1) fun x294 =>
                    chk (decide (Int.ofNat (List.length back0) + Int.ofNat (List.length x288) = Int.ofNat (List.length (back0 ++ x288))) && (decide (Int.ofNat (List.length l) = Int.ofNat (List.length l)) && (decide (Int.ofNat (List.length cs0) = Int.ofNat (List.length cs0)) && true))) <|
                    again (back0 ++ x288) (back1 ++ x290) (l) (cs0) (cs1) (x294) (t47))))))
       (chk (decide ((0 : Int) ≤ t48 ∧ t48 < Int.ofNat (List.length l))) <|
        chk (decide ((0 : Int) ≤ t48 ∧ t48 < Int.ofNat (List.length l))) <|
        one ((↑(ByteArray.size (List.getD l (Int.toNat t48) ByteArray.empty)) : Int)) fun x295 =>
        br (decide (x295 < 1))
          (kr [.b (false)])
          (chk (decide ((0 : Int) ≤ t48 ∧ t48 < Int.ofNat (List.length l))) <|
           chk (decide ((0 : Int) ≤ t48 ∧ t48 < Int.ofNat (List.length l))) <|
           one ((↑(ByteArray.size (List.getD l (Int.toNat t48) ByteArray.empty)) : Int)) fun x296 =>
           br (decide (x296 > 253))
             (kr [.b (false)])
             (chk (decide ((0 : Int) ≤ t48 ∧ t48 < Int.ofNat (List.length l))) <|
              chk (decide ((0 : Int) ≤ t48 ∧ t48 < Int.ofNat (List.length l))) <|
              out (vec_Get (List.getD l (Int.toNat t48) ByteArray.empty)) fun r297 =>
              un_li r297 fun x298 r299 =>
              un_li r299 fun x300 r301 =>
              un_b r301 fun x302 r303 =>
              un_nil r303 <|
              br (!x302)
                (kr [.b (false)])
                (chk (decide (Int.ofNat (List.length back0) = Int.ofNat (List.length back0)) && decide (Int.ofNat (List.length x298) = Int.ofNat (List.length x298)) && decide ((Int.ofNat (List.length back0) + Int.ofNat (List.length x298)) * (↑(nat_lit 16) : Int) ≤ (140737488355328 : Int) ∧ Int.ofNat (List.length back0) + Int.ofNat (List.length x298) ≤ (4611686018427387904 : Int))) <|
                 one (addI .i64 t48 1) fun x304 =>
                 chk (decide (Int.ofNat (List.length back0) + Int.ofNat (List.length x298) = Int.ofNat (List.length (back0 ++ x298))) && (decide (Int.ofNat (List.length l) = Int.ofNat (List.length l)) && (decide (Int.ofNat (List.length cs0) = Int.ofNat (List.length cs0)) && true))) <|
                 again (back0 ++ x298) (back1 ++ x300) (l) (cs0) (cs1) (x304) (t47))))))
    (chk (decide (Int.ofNat (List.length cs0) = Int.ofNat (List.length cs0)) && (decide (Int.ofNat (List.length back0) = Int.ofNat (List.length back0)) && true)) <|
     kx 2 [.li (cs0), .li (cs1), .li (back0), .li (back1)])
def VecLong_15_L {α : Type} (kx : Nat → List Leaf → Option α) (kr : List Leaf → Option α) : Nat → List Int → List Int → List ByteArray → List Int → List Int → Int → Int → Option α
  | 0, _, _, _, _, _, _, _ => none
  | n + 1, back0, back1, l, cs0, cs1, t48, t47 => VecLong_15_B  kx kr (VecLong_15_L kx kr n) back0 back1 l cs0 cs1 t48 t47
def VecLong_15_F (L15 : ({β : Type} → (Nat → List Leaf → Option β) → (List Leaf → Option β) → Nat → List Int → List Int → List ByteArray → List Int → List Int → Int → Int → Option β)) {α : Type} (n : Nat) (ls : List Leaf) (kx : Nat → List Leaf → Option α) (kr : List Leaf → Option α) : Option α := un_li ls fun back0 rr => un_li rr fun back1 rr => un_ls rr fun l rr => un_li rr fun cs0 rr => un_li rr fun cs1 rr => un_i rr fun t48 rr => un_i rr fun t47 rr => un_nil rr (L15 kx kr n back0 back1 l cs0 cs1 t48 t47)
def VecLong_d (L7 : ({β : Type} → (Nat → List Leaf → Option β) → (List Leaf → Option β) → Nat → List Int → List Int → Int → Int → Int → Option β)) (L15 : ({β : Type} → (Nat → List Leaf → Option β) → (List Leaf → Option β) → Nat → List Int → List Int → List ByteArray → List Int → List Int → Int → Int → Option β)) (n2 : Int) (s : Int) : Option (List Leaf) :=
  one (remI .i64 n2 1001) fun x305 =>
  one (addI .i64 x305 1001) fun x306 =>
  one (remI .i64 x306 1001) fun x307 =>
  chk (decide ((0 : Int) = Int.ofNat (0 : Nat)) && true) <|
  L7
    (fun i308 r309 =>
     br (Nat.beq 0 i308)
       (un_li r309 fun x310 r311 =>
        un_li r311 fun x312 r313 =>
        un_i r313 fun x314 r315 =>
        un_nil r315 <|
        chk (decide (Int.ofNat (List.length x310) = Int.ofNat (List.length x310)) && true) <|
        out (vec_Put x310 x312) fun r316 =>
        un_ls r316 fun x317 r318 =>
        un_nil r318 <|
        one (Int.ofNat (List.length x317)) fun x319 =>
        one (addI .i64 x314 252) fun x320 =>
        one (quoI .i64 x320 253) fun x321 =>
        br (x319 != x321)
          (some [.b (false)])
          (one (Int.ofNat (List.length x317)) fun x322 =>
           chk (decide ((0 : Int) = Int.ofNat (0 : Nat)) && (decide (Int.ofNat (List.length x317) = Int.ofNat (List.length x317)) && (decide (Int.ofNat (List.length x310) = Int.ofNat (List.length x310)) && true))) <|
           L15
             (fun i323 r324 =>
              br (Nat.beq 2 i323)
                (un_li r324 fun x325 r326 =>
                 un_li r326 fun x327 r328 =>
                 un_li r328 fun x329 r330 =>
                 un_li r330 fun x331 r332 =>
                 un_nil r332 <|
                 chk (decide (Int.ofNat (List.length x329) = Int.ofNat (List.length x329)) && (decide (Int.ofNat (List.length x325) = Int.ofNat (List.length x325)) && true)) <|
                 out (law_cells x329 x331 x325 x327) fun r333 =>
                 un_b r333 fun x334 r335 =>
                 un_nil r335 <|
                 some [.b (x334)])
                (none))
             (fun r336 =>
              un_b r336 fun x337 r338 =>
              un_nil r338 <|
              some [.b (x337)])
             top ([]) ([]) (x317) (x310) (x312) (0) (x322)))
       (none))
    (fun r339 =>
     un_nil r339 <|
     none)
    top ([]) ([]) (0) (s) (x307)
def VecLong (n2 : Int) (s : Int) : Option (List Leaf) := VecLong_d @VecLong_7_L @VecLong_15_L n2 s
end Go.Sx.T

