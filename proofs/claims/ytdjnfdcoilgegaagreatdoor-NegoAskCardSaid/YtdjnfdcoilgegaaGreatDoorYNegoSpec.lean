import Derived.Test.YtdjnfdcoilgegaaGreatDoorYNewSpec
import Derived.Test.YtdjnfdcoilgegaaGreatDoorYFeatSpec
set_option linter.all false
namespace Go.Sx.T
open Go Go.Sx
def nego_features  : Option (List Leaf) :=
  chk (decide ((↑(4 : Nat) : Int) = Int.ofNat (List.length [(1 : Int), (3 : Int), (6 : Int), (8 : Int)])) && true) <|
  some [.li ([1, 3, 6, 8])]
def nego_look (n_want_k : List Int) (n_want_v : List ByteArray) (n_like_k : List Int) (n_like_v : List ByteArray) (n_mine_k : List Int) (n_mine_v : List ByteArray) (n_theirs_k : List Int) (n_theirs_v : List ByteArray) (n_due0 : List Int) (n_due1 : List ByteArray) (n_server : Bool) (f : Int) (v : ByteArray) : Option (List Leaf) :=
  out (feat_Known f) fun r183 =>
  un_b r183 fun x184 r185 =>
  un_nil r185 <|
  br (!x184)
    (some [.i (10)])
    (out (feat_May f v) fun r186 =>
     un_b r186 fun x187 r188 =>
     un_nil r188 <|
     br (!x187)
       (some [.i (3)])
       (some [.i (0)]))
def nego_Want (n_want_k : List Int) (n_want_v : List ByteArray) (n_like_k : List Int) (n_like_v : List ByteArray) (n_mine_k : List Int) (n_mine_v : List ByteArray) (n_theirs_k : List Int) (n_theirs_v : List ByteArray) (n_due0 : List Int) (n_due1 : List ByteArray) (n_server : Bool) (f : Int) (v : ByteArray) : Option (List Leaf) :=
  chk (decide (Int.ofNat (List.length n_due0) = Int.ofNat (List.length n_due0)) && true && true) <|
  out (nego_look n_want_k n_want_v n_like_k n_like_v n_mine_k n_mine_v n_theirs_k n_theirs_v n_due0 n_due1 n_server f v) fun r189 =>
  un_i r189 fun x190 r191 =>
  un_nil r191 <|
  br (x190 == 0)
    (chk (decide (Int.ofNat (List.length n_due0) = Int.ofNat (List.length n_due0)) && true && true) <|
     some [.li (mputK n_want_k f), .ls (mputV n_want_k n_want_v f v), .li (n_like_k), .ls (n_like_v), .li (n_mine_k), .ls (n_mine_v), .li (n_theirs_k), .ls (n_theirs_v), .li (n_due0), .ls (n_due1), .b (n_server), .i (x190)])
    (chk (decide (Int.ofNat (List.length n_due0) = Int.ofNat (List.length n_due0)) && true && true) <|
     some [.li (n_want_k), .ls (n_want_v), .li (n_like_k), .ls (n_like_v), .li (n_mine_k), .ls (n_mine_v), .li (n_theirs_k), .ls (n_theirs_v), .li (n_due0), .ls (n_due1), .b (n_server), .i (x190)])
def nego_Like (n_want_k : List Int) (n_want_v : List ByteArray) (n_like_k : List Int) (n_like_v : List ByteArray) (n_mine_k : List Int) (n_mine_v : List ByteArray) (n_theirs_k : List Int) (n_theirs_v : List ByteArray) (n_due0 : List Int) (n_due1 : List ByteArray) (n_server : Bool) (f : Int) (v : ByteArray) : Option (List Leaf) :=
  chk (decide (Int.ofNat (List.length n_due0) = Int.ofNat (List.length n_due0)) && true && true) <|
  out (nego_look n_want_k n_want_v n_like_k n_like_v n_mine_k n_mine_v n_theirs_k n_theirs_v n_due0 n_due1 n_server f v) fun r192 =>
  un_i r192 fun x193 r194 =>
  un_nil r194 <|
  br (x193 == 0)
    (chk (decide (Int.ofNat (List.length n_due0) = Int.ofNat (List.length n_due0)) && true && true) <|
     some [.li (n_want_k), .ls (n_want_v), .li (mputK n_like_k f), .ls (mputV n_like_k n_like_v f v), .li (n_mine_k), .ls (n_mine_v), .li (n_theirs_k), .ls (n_theirs_v), .li (n_due0), .ls (n_due1), .b (n_server), .i (x193)])
    (chk (decide (Int.ofNat (List.length n_due0) = Int.ofNat (List.length n_due0)) && true && true) <|
     some [.li (n_want_k), .ls (n_want_v), .li (n_like_k), .ls (n_like_v), .li (n_mine_k), .ls (n_mine_v), .li (n_theirs_k), .ls (n_theirs_v), .li (n_due0), .ls (n_due1), .b (n_server), .i (x193)])
def nego_option (t : Int) (f : Int) (v : ByteArray) : Option (List Leaf) :=
  one (wrapI .u8 f) fun x195 =>
  chk (Nat.ble (ByteArray.size (strOfI (partL Option.none (↑(1 : Nat) : Int) [x195])) + ByteArray.size v) (9223372036854775807 : Nat)) <|
  some [.i (t), .s (strOfI (partL Option.none ↑1 [x195]) ++ v)]
def nego_Opts_6_B  {α : Type} (kx : Nat → List Leaf → Option α) (kr : List Leaf → Option α) (again : List Int → List ByteArray → List Int → List ByteArray → List Int → List ByteArray → List Int → List ByteArray → List Int → List ByteArray → List Int → List ByteArray → List Int → Bool → Int → Int → Option α) (n_want_k : List Int) (n_want_v : List ByteArray) (n_like_k : List Int) (n_like_v : List ByteArray) (n_mine_k : List Int) (n_mine_v : List ByteArray) (n_theirs_k : List Int) (n_theirs_v : List ByteArray) (n_due0 : List Int) (n_due1 : List ByteArray) (out0 : List Int) (out1 : List ByteArray) (t17 : List Int) (n_server : Bool) (t19 : Int) (t18 : Int) : Option α :=
  br (decide (t19 < t18))
    (chk (decide ((0 : Int) ≤ t19 ∧ t19 < Int.ofNat (List.length t17))) <|
     chk (decide ((0 : Int) ≤ t19 ∧ t19 < Int.ofNat (List.length t17))) <|
     br (mhas n_want_k (List.getD t17 (Int.toNat t19) 0))
       (out (nego_option 32 (List.getD t17 (Int.toNat t19) 0) (mget ByteArray.empty n_want_k n_want_v (List.getD t17 (Int.toNat t19) 0))) fun r214 =>
        un_i r214 fun x215 r216 =>
        un_s r216 fun x217 r218 =>
        un_nil r218 <|
        chk (decide (Int.ofNat (List.length out0) = Int.ofNat (List.length out0)) && true && decide ((Int.ofNat (List.length out0) + (↑(1 : Nat) : Int)) * (↑(nat_lit 24) : Int) ≤ (140737488355328 : Int) ∧ Int.ofNat (List.length out0) + (↑(1 : Nat) : Int) ≤ (4611686018427387904 : Int))) <|
        one (addI .i64 t19 1) fun x219 =>
        chk (decide (Int.ofNat (List.length n_due0) = Int.ofNat (List.length n_due0)) && true && true) <|
        chk (decide (Int.ofNat (List.length out0) + (↑(1 : Nat) : Int) = Int.ofNat (List.length (out0 ++ [x215]))) && (decide (Int.ofNat (List.length t17) = Int.ofNat (List.length t17)) && true)) <|
        again (n_want_k) (n_want_v) (n_like_k) (n_like_v) (n_mine_k) (n_mine_v) (n_theirs_k) (n_theirs_v) (n_due0) (n_due1) (out0 ++ [x215]) (out1 ++ [x217]) (t17) (n_server) (x219) (t18))
       (one (addI .i64 t19 1) fun x220 =>
        chk (decide (Int.ofNat (List.length n_due0) = Int.ofNat (List.length n_due0)) && true && true) <|
        chk (decide (Int.ofNat (List.length out0) = Int.ofNat (List.length out0)) && (decide (Int.ofNat (List.length t17) = Int.ofNat (List.length t17)) && true)) <|
        again (n_want_k) (n_want_v) (n_like_k) (n_like_v) (n_mine_k) (n_mine_v) (n_theirs_k) (n_theirs_v) (n_due0) (n_due1) (out0) (out1) (t17) (n_server) (x220) (t18)))
    (chk (decide (Int.ofNat (List.length n_due0) = Int.ofNat (List.length n_due0)) && true && true) <|
     chk (decide (Int.ofNat (List.length out0) = Int.ofNat (List.length out0)) && true) <|
     kx 0 [.li (n_want_k), .ls (n_want_v), .li (n_like_k), .ls (n_like_v), .li (n_mine_k), .ls (n_mine_v), .li (n_theirs_k), .ls (n_theirs_v), .li (n_due0), .ls (n_due1), .li (out0), .ls (out1), .b (n_server)])
def nego_Opts_6_L {α : Type} (kx : Nat → List Leaf → Option α) (kr : List Leaf → Option α) : Nat → List Int → List ByteArray → List Int → List ByteArray → List Int → List ByteArray → List Int → List ByteArray → List Int → List ByteArray → List Int → List ByteArray → List Int → Bool → Int → Int → Option α
  | 0, _, _, _, _, _, _, _, _, _, _, _, _, _, _, _, _ => none
  | n + 1, n_want_k, n_want_v, n_like_k, n_like_v, n_mine_k, n_mine_v, n_theirs_k, n_theirs_v, n_due0, n_due1, out0, out1, t17, n_server, t19, t18 => nego_Opts_6_B  kx kr (nego_Opts_6_L kx kr n) n_want_k n_want_v n_like_k n_like_v n_mine_k n_mine_v n_theirs_k n_theirs_v n_due0 n_due1 out0 out1 t17 n_server t19 t18
def nego_Opts_6_F (L6 : ({β : Type} → (Nat → List Leaf → Option β) → (List Leaf → Option β) → Nat → List Int → List ByteArray → List Int → List ByteArray → List Int → List ByteArray → List Int → List ByteArray → List Int → List ByteArray → List Int → List ByteArray → List Int → Bool → Int → Int → Option β)) {α : Type} (n : Nat) (ls : List Leaf) (kx : Nat → List Leaf → Option α) (kr : List Leaf → Option α) : Option α := un_li ls fun n_want_k rr => un_ls rr fun n_want_v rr => un_li rr fun n_like_k rr => un_ls rr fun n_like_v rr => un_li rr fun n_mine_k rr => un_ls rr fun n_mine_v rr => un_li rr fun n_theirs_k rr => un_ls rr fun n_theirs_v rr => un_li rr fun n_due0 rr => un_ls rr fun n_due1 rr => un_li rr fun out0 rr => un_ls rr fun out1 rr => un_li rr fun t17 rr => un_b rr fun n_server rr => un_i rr fun t19 rr => un_i rr fun t18 rr => un_nil rr (L6 kx kr n n_want_k n_want_v n_like_k n_like_v n_mine_k n_mine_v n_theirs_k n_theirs_v n_due0 n_due1 out0 out1 t17 n_server t19 t18)
def nego_Opts_d (L6 : ({β : Type} → (Nat → List Leaf → Option β) → (List Leaf → Option β) → Nat → List Int → List ByteArray → List Int → List ByteArray → List Int → List ByteArray → List Int → List ByteArray → List Int → List ByteArray → List Int → List ByteArray → List Int → Bool → Int → Int → Option β)) (n_want_k : List Int) (n_want_v : List ByteArray) (n_like_k : List Int) (n_like_v : List ByteArray) (n_mine_k : List Int) (n_mine_v : List ByteArray) (n_theirs_k : List Int) (n_theirs_v : List ByteArray) (n_due0 : List Int) (n_due1 : List ByteArray) (n_server : Bool) : Option (List Leaf) :=
  out (nego_features) fun r221 =>
  un_li r221 fun x222 r223 =>
  un_nil r223 <|
  one (Int.ofNat (List.length x222)) fun x224 =>
  chk (decide ((0 : Int) = Int.ofNat (0 : Nat)) && true && true) <|
  chk (decide (Int.ofNat (List.length n_due0) = Int.ofNat (List.length n_due0)) && (decide (Int.ofNat (List.length x222) = Int.ofNat (List.length x222)) && true)) <|
  L6
    (fun i225 r226 =>
     br (Nat.beq 0 i225)
       (un_li r226 fun x227 r228 =>
        un_ls r228 fun x229 r230 =>
        un_li r230 fun x231 r232 =>
        un_ls r232 fun x233 r234 =>
        un_li r234 fun x235 r236 =>
        un_ls r236 fun x237 r238 =>
        un_li r238 fun x239 r240 =>
        un_ls r240 fun x241 r242 =>
        un_li r242 fun x243 r244 =>
        un_ls r244 fun x245 r246 =>
        un_li r246 fun x247 r248 =>
        un_ls r248 fun x249 r250 =>
        un_b r250 fun x251 r252 =>
        un_nil r252 <|
        chk (decide (Int.ofNat (List.length x243) = Int.ofNat (List.length x243)) && true && true) <|
        chk (decide (Int.ofNat (List.length x247) = Int.ofNat (List.length x247)) && true) <|
        some [.li (x227), .ls (x229), .li (x231), .ls (x233), .li (x235), .ls (x237), .li (x239), .ls (x241), .li (x243), .ls (x245), .li (x247), .ls (x249), .b (x251)])
       (none))
    (fun r253 =>
     un_nil r253 <|
     none)
    top (n_want_k) (n_want_v) (n_like_k) (n_like_v) (n_mine_k) (n_mine_v) (n_theirs_k) (n_theirs_v) ([]) ([]) (n_due0) (n_due1) (x222) (n_server) (0) (x224)
def nego_Opts (n_want_k : List Int) (n_want_v : List ByteArray) (n_like_k : List Int) (n_like_v : List ByteArray) (n_mine_k : List Int) (n_mine_v : List ByteArray) (n_theirs_k : List Int) (n_theirs_v : List ByteArray) (n_due0 : List Int) (n_due1 : List ByteArray) (n_server : Bool) : Option (List Leaf) := nego_Opts_d @nego_Opts_6_L n_want_k n_want_v n_like_k n_like_v n_mine_k n_mine_v n_theirs_k n_theirs_v n_due0 n_due1 n_server
def nego_answers (n_want_k : List Int) (n_want_v : List ByteArray) (n_like_k : List Int) (n_like_v : List ByteArray) (n_mine_k : List Int) (n_mine_v : List ByteArray) (n_theirs_k : List Int) (n_theirs_v : List ByteArray) (n_due0 : List Int) (n_due1 : List ByteArray) (n_server : Bool) (t : Int) (f : Int) (v : ByteArray) (must : Bool) : Option (List Leaf) :=
  br (must)
    (br (v == { data := #[] })
       (chk (decide (Int.ofNat (List.length n_due0) = Int.ofNat (List.length n_due0)) && true && true) <|
        some [.li (n_want_k), .ls (n_want_v), .li (n_like_k), .ls (n_like_v), .li (n_mine_k), .ls (n_mine_v), .li (n_theirs_k), .ls (n_theirs_v), .li (n_due0), .ls (n_due1), .b (n_server), .b (false)])
       (out (nego_option t f v) fun r254 =>
        un_i r254 fun x255 r256 =>
        un_s r256 fun x257 r258 =>
        un_nil r258 <|
        chk (decide (Int.ofNat (List.length n_due0) = Int.ofNat (List.length n_due0)) && true && decide ((Int.ofNat (List.length n_due0) + (↑(1 : Nat) : Int)) * (↑(nat_lit 24) : Int) ≤ (140737488355328 : Int) ∧ Int.ofNat (List.length n_due0) + (↑(1 : Nat) : Int) ≤ (4611686018427387904 : Int))) <|
        chk (decide (Int.ofNat (List.length n_due0) + (↑(1 : Nat) : Int) = Int.ofNat (List.length (n_due0 ++ [x255]))) && true && true) <|
        some [.li (n_want_k), .ls (n_want_v), .li (n_like_k), .ls (n_like_v), .li (n_mine_k), .ls (n_mine_v), .li (n_theirs_k), .ls (n_theirs_v), .li (n_due0 ++ [x255]), .ls (n_due1 ++ [x257]), .b (n_server), .b (true)]))
    (out (nego_option t f v) fun r259 =>
     un_i r259 fun x260 r261 =>
     un_s r261 fun x262 r263 =>
     un_nil r263 <|
     chk (decide (Int.ofNat (List.length n_due0) = Int.ofNat (List.length n_due0)) && true && decide ((Int.ofNat (List.length n_due0) + (↑(1 : Nat) : Int)) * (↑(nat_lit 24) : Int) ≤ (140737488355328 : Int) ∧ Int.ofNat (List.length n_due0) + (↑(1 : Nat) : Int) ≤ (4611686018427387904 : Int))) <|
     chk (decide (Int.ofNat (List.length n_due0) + (↑(1 : Nat) : Int) = Int.ofNat (List.length (n_due0 ++ [x260]))) && true && true) <|
     some [.li (n_want_k), .ls (n_want_v), .li (n_like_k), .ls (n_like_v), .li (n_mine_k), .ls (n_mine_v), .li (n_theirs_k), .ls (n_theirs_v), .li (n_due0 ++ [x260]), .ls (n_due1 ++ [x262]), .b (n_server), .b (true)])
def nego_changed (n_want_k : List Int) (n_want_v : List ByteArray) (n_like_k : List Int) (n_like_v : List ByteArray) (n_mine_k : List Int) (n_mine_v : List ByteArray) (n_theirs_k : List Int) (n_theirs_v : List ByteArray) (n_due0 : List Int) (n_due1 : List ByteArray) (n_server : Bool) (f : Int) (v : ByteArray) (must : Bool) : Option (List Leaf) :=
  br (n_server)
    (out (feat_Choose f (mget ByteArray.empty n_like_k n_like_v f) v) fun r264 =>
     un_s r264 fun x265 r266 =>
     un_b r266 fun x267 r268 =>
     un_nil r268 <|
     br (!x267)
       (chk (decide (Int.ofNat (List.length n_due0) = Int.ofNat (List.length n_due0)) && true && true) <|
        out (nego_answers n_want_k n_want_v n_like_k n_like_v n_mine_k n_mine_v n_theirs_k n_theirs_v n_due0 n_due1 n_server 35 f { data := #[] } must) fun r269 =>
        un_li r269 fun x270 r271 =>
        un_ls r271 fun x272 r273 =>
        un_li r273 fun x274 r275 =>
        un_ls r275 fun x276 r277 =>
        un_li r277 fun x278 r279 =>
        un_ls r279 fun x280 r281 =>
        un_li r281 fun x282 r283 =>
        un_ls r283 fun x284 r285 =>
        un_li r285 fun x286 r287 =>
        un_ls r287 fun x288 r289 =>
        un_b r289 fun x290 r291 =>
        un_b r291 fun x292 r293 =>
        un_nil r293 <|
        chk (decide (Int.ofNat (List.length x286) = Int.ofNat (List.length x286)) && true && true) <|
        some [.li (x270), .ls (x272), .li (x274), .ls (x276), .li (x278), .ls (x280), .li (x282), .ls (x284), .li (x286), .ls (x288), .b (x290), .b (x292)])
       (out (feat_List f) fun r294 =>
        un_b r294 fun x295 r296 =>
        un_nil r296 <|
        br (x295)
          (chk (Nat.ble (ByteArray.size x265 + ByteArray.size (mget ByteArray.empty n_like_k n_like_v f)) 9223372036854775807) <|
           chk (decide (Int.ofNat (List.length n_due0) = Int.ofNat (List.length n_due0)) && true && true) <|
           out (nego_answers n_want_k n_want_v n_like_k n_like_v n_mine_k n_mine_v (mputK n_theirs_k f) (mputV n_theirs_k n_theirs_v f x265) n_due0 n_due1 n_server 35 f (x265 ++ mget ByteArray.empty n_like_k n_like_v f) must) fun r297 =>
           un_li r297 fun x298 r299 =>
           un_ls r299 fun x300 r301 =>
           un_li r301 fun x302 r303 =>
           un_ls r303 fun x304 r305 =>
           un_li r305 fun x306 r307 =>
           un_ls r307 fun x308 r309 =>
           un_li r309 fun x310 r311 =>
           un_ls r311 fun x312 r313 =>
           un_li r313 fun x314 r315 =>
           un_ls r315 fun x316 r317 =>
           un_b r317 fun x318 r319 =>
           un_b r319 fun x320 r321 =>
           un_nil r321 <|
           chk (decide (Int.ofNat (List.length x314) = Int.ofNat (List.length x314)) && true && true) <|
           some [.li (x298), .ls (x300), .li (x302), .ls (x304), .li (x306), .ls (x308), .li (x310), .ls (x312), .li (x314), .ls (x316), .b (x318), .b (x320)])
          (chk (decide (Int.ofNat (List.length n_due0) = Int.ofNat (List.length n_due0)) && true && true) <|
           out (nego_answers n_want_k n_want_v n_like_k n_like_v n_mine_k n_mine_v (mputK n_theirs_k f) (mputV n_theirs_k n_theirs_v f x265) n_due0 n_due1 n_server 35 f x265 must) fun r322 =>
           un_li r322 fun x323 r324 =>
           un_ls r324 fun x325 r326 =>
           un_li r326 fun x327 r328 =>
           un_ls r328 fun x329 r330 =>
           un_li r330 fun x331 r332 =>
           un_ls r332 fun x333 r334 =>
           un_li r334 fun x335 r336 =>
           un_ls r336 fun x337 r338 =>
           un_li r338 fun x339 r340 =>
           un_ls r340 fun x341 r342 =>
           un_b r342 fun x343 r344 =>
           un_b r344 fun x345 r346 =>
           un_nil r346 <|
           chk (decide (Int.ofNat (List.length x339) = Int.ofNat (List.length x339)) && true && true) <|
           some [.li (x323), .ls (x325), .li (x327), .ls (x329), .li (x331), .ls (x333), .li (x335), .ls (x337), .li (x339), .ls (x341), .b (x343), .b (x345)])))
    (br (f == 3)
       (out (feat_Choose f (mget ByteArray.empty n_like_k n_like_v f) v) fun r347 =>
        un_s r347 fun x348 r349 =>
        un_b r349 fun x350 r351 =>
        un_nil r351 <|
        br (!x350)
          (chk (decide (Int.ofNat (List.length n_due0) = Int.ofNat (List.length n_due0)) && true && true) <|
           out (nego_answers n_want_k n_want_v n_like_k n_like_v n_mine_k n_mine_v n_theirs_k n_theirs_v n_due0 n_due1 n_server 35 f { data := #[] } must) fun r352 =>
           un_li r352 fun x353 r354 =>
           un_ls r354 fun x355 r356 =>
           un_li r356 fun x357 r358 =>
           un_ls r358 fun x359 r360 =>
           un_li r360 fun x361 r362 =>
           un_ls r362 fun x363 r364 =>
           un_li r364 fun x365 r366 =>
           un_ls r366 fun x367 r368 =>
           un_li r368 fun x369 r370 =>
           un_ls r370 fun x371 r372 =>
           un_b r372 fun x373 r374 =>
           un_b r374 fun x375 r376 =>
           un_nil r376 <|
           chk (decide (Int.ofNat (List.length x369) = Int.ofNat (List.length x369)) && true && true) <|
           some [.li (x353), .ls (x355), .li (x357), .ls (x359), .li (x361), .ls (x363), .li (x365), .ls (x367), .li (x369), .ls (x371), .b (x373), .b (x375)])
          (out (feat_List f) fun r377 =>
           un_b r377 fun x378 r379 =>
           un_nil r379 <|
           br (x378)
             (chk (Nat.ble (ByteArray.size x348 + ByteArray.size (mget ByteArray.empty n_like_k n_like_v f)) 9223372036854775807) <|
              chk (decide (Int.ofNat (List.length n_due0) = Int.ofNat (List.length n_due0)) && true && true) <|
              out (nego_answers n_want_k n_want_v n_like_k n_like_v n_mine_k n_mine_v (mputK n_theirs_k f) (mputV n_theirs_k n_theirs_v f x348) n_due0 n_due1 n_server 35 f (x348 ++ mget ByteArray.empty n_like_k n_like_v f) must) fun r380 =>
              un_li r380 fun x381 r382 =>
              un_ls r382 fun x383 r384 =>
              un_li r384 fun x385 r386 =>
              un_ls r386 fun x387 r388 =>
              un_li r388 fun x389 r390 =>
              un_ls r390 fun x391 r392 =>
              un_li r392 fun x393 r394 =>
              un_ls r394 fun x395 r396 =>
              un_li r396 fun x397 r398 =>
              un_ls r398 fun x399 r400 =>
              un_b r400 fun x401 r402 =>
              un_b r402 fun x403 r404 =>
              un_nil r404 <|
              chk (decide (Int.ofNat (List.length x397) = Int.ofNat (List.length x397)) && true && true) <|
              some [.li (x381), .ls (x383), .li (x385), .ls (x387), .li (x389), .ls (x391), .li (x393), .ls (x395), .li (x397), .ls (x399), .b (x401), .b (x403)])
             (chk (decide (Int.ofNat (List.length n_due0) = Int.ofNat (List.length n_due0)) && true && true) <|
              out (nego_answers n_want_k n_want_v n_like_k n_like_v n_mine_k n_mine_v (mputK n_theirs_k f) (mputV n_theirs_k n_theirs_v f x348) n_due0 n_due1 n_server 35 f x348 must) fun r405 =>
              un_li r405 fun x406 r407 =>
              un_ls r407 fun x408 r409 =>
              un_li r409 fun x410 r411 =>
              un_ls r411 fun x412 r413 =>
              un_li r413 fun x414 r415 =>
              un_ls r415 fun x416 r417 =>
              un_li r417 fun x418 r419 =>
              un_ls r419 fun x420 r421 =>
              un_li r421 fun x422 r423 =>
              un_ls r423 fun x424 r425 =>
              un_b r425 fun x426 r427 =>
              un_b r427 fun x428 r429 =>
              un_nil r429 <|
              chk (decide (Int.ofNat (List.length x422) = Int.ofNat (List.length x422)) && true && true) <|
              some [.li (x406), .ls (x408), .li (x410), .ls (x412), .li (x414), .ls (x416), .li (x418), .ls (x420), .li (x422), .ls (x424), .b (x426), .b (x428)])))
       (out (feat_Choose f v (mget ByteArray.empty n_like_k n_like_v f)) fun r430 =>
        un_s r430 fun x431 r432 =>
        un_b r432 fun x433 r434 =>
        un_nil r434 <|
        br (!x433)
          (chk (decide (Int.ofNat (List.length n_due0) = Int.ofNat (List.length n_due0)) && true && true) <|
           out (nego_answers n_want_k n_want_v n_like_k n_like_v n_mine_k n_mine_v n_theirs_k n_theirs_v n_due0 n_due1 n_server 35 f { data := #[] } must) fun r435 =>
           un_li r435 fun x436 r437 =>
           un_ls r437 fun x438 r439 =>
           un_li r439 fun x440 r441 =>
           un_ls r441 fun x442 r443 =>
           un_li r443 fun x444 r445 =>
           un_ls r445 fun x446 r447 =>
           un_li r447 fun x448 r449 =>
           un_ls r449 fun x450 r451 =>
           un_li r451 fun x452 r453 =>
           un_ls r453 fun x454 r455 =>
           un_b r455 fun x456 r457 =>
           un_b r457 fun x458 r459 =>
           un_nil r459 <|
           chk (decide (Int.ofNat (List.length x452) = Int.ofNat (List.length x452)) && true && true) <|
           some [.li (x436), .ls (x438), .li (x440), .ls (x442), .li (x444), .ls (x446), .li (x448), .ls (x450), .li (x452), .ls (x454), .b (x456), .b (x458)])
          (out (feat_List f) fun r460 =>
           un_b r460 fun x461 r462 =>
           un_nil r462 <|
           br (x461)
             (chk (Nat.ble (ByteArray.size x431 + ByteArray.size (mget ByteArray.empty n_like_k n_like_v f)) 9223372036854775807) <|
              chk (decide (Int.ofNat (List.length n_due0) = Int.ofNat (List.length n_due0)) && true && true) <|
              out (nego_answers n_want_k n_want_v n_like_k n_like_v n_mine_k n_mine_v (mputK n_theirs_k f) (mputV n_theirs_k n_theirs_v f x431) n_due0 n_due1 n_server 35 f (x431 ++ mget ByteArray.empty n_like_k n_like_v f) must) fun r463 =>
              un_li r463 fun x464 r465 =>
              un_ls r465 fun x466 r467 =>
              un_li r467 fun x468 r469 =>
              un_ls r469 fun x470 r471 =>
              un_li r471 fun x472 r473 =>
              un_ls r473 fun x474 r475 =>
              un_li r475 fun x476 r477 =>
              un_ls r477 fun x478 r479 =>
              un_li r479 fun x480 r481 =>
              un_ls r481 fun x482 r483 =>
              un_b r483 fun x484 r485 =>
              un_b r485 fun x486 r487 =>
              un_nil r487 <|
              chk (decide (Int.ofNat (List.length x480) = Int.ofNat (List.length x480)) && true && true) <|
              some [.li (x464), .ls (x466), .li (x468), .ls (x470), .li (x472), .ls (x474), .li (x476), .ls (x478), .li (x480), .ls (x482), .b (x484), .b (x486)])
             (chk (decide (Int.ofNat (List.length n_due0) = Int.ofNat (List.length n_due0)) && true && true) <|
              out (nego_answers n_want_k n_want_v n_like_k n_like_v n_mine_k n_mine_v (mputK n_theirs_k f) (mputV n_theirs_k n_theirs_v f x431) n_due0 n_due1 n_server 35 f x431 must) fun r488 =>
              un_li r488 fun x489 r490 =>
              un_ls r490 fun x491 r492 =>
              un_li r492 fun x493 r494 =>
              un_ls r494 fun x495 r496 =>
              un_li r496 fun x497 r498 =>
              un_ls r498 fun x499 r500 =>
              un_li r500 fun x501 r502 =>
              un_ls r502 fun x503 r504 =>
              un_li r504 fun x505 r506 =>
              un_ls r506 fun x507 r508 =>
              un_b r508 fun x509 r510 =>
              un_b r510 fun x511 r512 =>
              un_nil r512 <|
              chk (decide (Int.ofNat (List.length x505) = Int.ofNat (List.length x505)) && true && true) <|
              some [.li (x489), .ls (x491), .li (x493), .ls (x495), .li (x497), .ls (x499), .li (x501), .ls (x503), .li (x505), .ls (x507), .b (x509), .b (x511)]))))
def nego_confirmed (n_want_k : List Int) (n_want_v : List ByteArray) (n_like_k : List Int) (n_like_v : List ByteArray) (n_mine_k : List Int) (n_mine_v : List ByteArray) (n_theirs_k : List Int) (n_theirs_v : List ByteArray) (n_due0 : List Int) (n_due1 : List ByteArray) (n_server : Bool) (f : Int) (v : ByteArray) : Option (List Leaf) :=
  br (!mhas n_want_k f)
    (chk (decide (Int.ofNat (List.length n_due0) = Int.ofNat (List.length n_due0)) && true && true) <|
     some [.li (n_want_k), .ls (n_want_v), .li (n_like_k), .ls (n_like_v), .li (n_mine_k), .ls (n_mine_v), .li (n_theirs_k), .ls (n_theirs_v), .li (n_due0), .ls (n_due1), .b (n_server), .b (true)])
    (br (v == { data := #[] })
       (chk (decide (Int.ofNat (List.length n_due0) = Int.ofNat (List.length n_due0)) && true && true) <|
        some [.li (mdelK n_want_k f), .ls (mdelV n_want_k n_want_v f), .li (n_like_k), .ls (n_like_v), .li (n_mine_k), .ls (n_mine_v), .li (n_theirs_k), .ls (n_theirs_v), .li (n_due0), .ls (n_due1), .b (n_server), .b (true)])
       (out (feat_List f) fun r513 =>
        un_b r513 fun x514 r515 =>
        un_nil r515 <|
        br (x514)
          (chk (decide ((0 : Int) ≤ 0 ∧ 0 < (↑(ByteArray.size v) : Int))) <|
           one (bt v 0) fun x516 =>
           out (str_IndexByte (mget ByteArray.empty n_want_k n_want_v f) x516) fun r517 =>
           un_i r517 fun x518 r519 =>
           un_nil r519 <|
           br (decide (x518 ≥ 0))
             (chk (condSl (↑(ByteArray.size v) : Int) Option.none (Option.some 1)) <|
              chk (decide (Int.ofNat (List.length n_due0) = Int.ofNat (List.length n_due0)) && true && true) <|
              some [.li (mdelK n_want_k f), .ls (mdelV n_want_k n_want_v f), .li (n_like_k), .ls (n_like_v), .li (mputK n_mine_k f), .ls (mputV n_mine_k n_mine_v f (strSlO v Option.none (Option.some 1))), .li (n_theirs_k), .ls (n_theirs_v), .li (n_due0), .ls (n_due1), .b (n_server), .b (true)])
             (out (feat_List f) fun r520 =>
              un_b r520 fun x521 r522 =>
              un_nil r522 <|
              br (!x521)
                (br (v == mget ByteArray.empty n_want_k n_want_v f)
                   (chk (decide (Int.ofNat (List.length n_due0) = Int.ofNat (List.length n_due0)) && true && true) <|
                    some [.li (mdelK n_want_k f), .ls (mdelV n_want_k n_want_v f), .li (n_like_k), .ls (n_like_v), .li (mputK n_mine_k f), .ls (mputV n_mine_k n_mine_v f v), .li (n_theirs_k), .ls (n_theirs_v), .li (n_due0), .ls (n_due1), .b (n_server), .b (true)])
                   (chk (decide (Int.ofNat (List.length n_due0) = Int.ofNat (List.length n_due0)) && true && true) <|
                    some [.li (n_want_k), .ls (n_want_v), .li (n_like_k), .ls (n_like_v), .li (n_mine_k), .ls (n_mine_v), .li (n_theirs_k), .ls (n_theirs_v), .li (n_due0), .ls (n_due1), .b (n_server), .b (false)]))
                (chk (decide (Int.ofNat (List.length n_due0) = Int.ofNat (List.length n_due0)) && true && true) <|
                 some [.li (n_want_k), .ls (n_want_v), .li (n_like_k), .ls (n_like_v), .li (n_mine_k), .ls (n_mine_v), .li (n_theirs_k), .ls (n_theirs_v), .li (n_due0), .ls (n_due1), .b (n_server), .b (false)])))
          (out (feat_List f) fun r523 =>
           un_b r523 fun x524 r525 =>
           un_nil r525 <|
           br (!x524)
             (br (v == mget ByteArray.empty n_want_k n_want_v f)
                (chk (decide (Int.ofNat (List.length n_due0) = Int.ofNat (List.length n_due0)) && true && true) <|
                 some [.li (mdelK n_want_k f), .ls (mdelV n_want_k n_want_v f), .li (n_like_k), .ls (n_like_v), .li (mputK n_mine_k f), .ls (mputV n_mine_k n_mine_v f v), .li (n_theirs_k), .ls (n_theirs_v), .li (n_due0), .ls (n_due1), .b (n_server), .b (true)])
                (chk (decide (Int.ofNat (List.length n_due0) = Int.ofNat (List.length n_due0)) && true && true) <|
                 some [.li (n_want_k), .ls (n_want_v), .li (n_like_k), .ls (n_like_v), .li (n_mine_k), .ls (n_mine_v), .li (n_theirs_k), .ls (n_theirs_v), .li (n_due0), .ls (n_due1), .b (n_server), .b (false)]))
             (chk (decide (Int.ofNat (List.length n_due0) = Int.ofNat (List.length n_due0)) && true && true) <|
              some [.li (n_want_k), .ls (n_want_v), .li (n_like_k), .ls (n_like_v), .li (n_mine_k), .ls (n_mine_v), .li (n_theirs_k), .ls (n_theirs_v), .li (n_due0), .ls (n_due1), .b (n_server), .b (false)]))))
def nego_known (t : Int) : Option (List Leaf) :=
  br (t == 38)
    (br (t == 38)
       (some [.b (true)])
       (some [.b (false)]))
    (br (t == 39)
       (br (t == 39)
          (some [.b (true)])
          (some [.b (false)]))
       (br (t == 43)
          (br (t == 43)
             (some [.b (true)])
             (some [.b (false)]))
          (br (t == 193)
             (br (t == 193)
                (some [.b (true)])
                (some [.b (false)]))
             (br (t == 194)
                (some [.b (true)])
                (some [.b (false)])))))
def nego_one (n_want_k : List Int) (n_want_v : List ByteArray) (n_like_k : List Int) (n_like_v : List ByteArray) (n_mine_k : List Int) (n_mine_v : List ByteArray) (n_theirs_k : List Int) (n_theirs_v : List ByteArray) (n_due0 : List Int) (n_due1 : List ByteArray) (n_server : Bool) (o_Type : Int) (o_Data : ByteArray) (must : Bool) : Option (List Leaf) :=
  br (decide (o_Type < 32))
    (br (!must)
       (chk (decide (Int.ofNat (List.length n_due0) = Int.ofNat (List.length n_due0)) && true && true) <|
        some [.li (n_want_k), .ls (n_want_v), .li (n_like_k), .ls (n_like_v), .li (n_mine_k), .ls (n_mine_v), .li (n_theirs_k), .ls (n_theirs_v), .li (n_due0), .ls (n_due1), .b (n_server), .b (true)])
       (out (nego_known o_Type) fun r526 =>
        un_b r526 fun x527 r528 =>
        un_nil r528 <|
        chk (decide (Int.ofNat (List.length n_due0) = Int.ofNat (List.length n_due0)) && true && true) <|
        some [.li (n_want_k), .ls (n_want_v), .li (n_like_k), .ls (n_like_v), .li (n_mine_k), .ls (n_mine_v), .li (n_theirs_k), .ls (n_theirs_v), .li (n_due0), .ls (n_due1), .b (n_server), .b (x527)]))
    (br (decide (o_Type > 35))
       (br (!must)
          (chk (decide (Int.ofNat (List.length n_due0) = Int.ofNat (List.length n_due0)) && true && true) <|
           some [.li (n_want_k), .ls (n_want_v), .li (n_like_k), .ls (n_like_v), .li (n_mine_k), .ls (n_mine_v), .li (n_theirs_k), .ls (n_theirs_v), .li (n_due0), .ls (n_due1), .b (n_server), .b (true)])
          (out (nego_known o_Type) fun r529 =>
           un_b r529 fun x530 r531 =>
           un_nil r531 <|
           chk (decide (Int.ofNat (List.length n_due0) = Int.ofNat (List.length n_due0)) && true && true) <|
           some [.li (n_want_k), .ls (n_want_v), .li (n_like_k), .ls (n_like_v), .li (n_mine_k), .ls (n_mine_v), .li (n_theirs_k), .ls (n_theirs_v), .li (n_due0), .ls (n_due1), .b (n_server), .b (x530)]))
       (br (o_Data == { data := #[] })
          (chk (decide (Int.ofNat (List.length n_due0) = Int.ofNat (List.length n_due0)) && true && true) <|
           some [.li (n_want_k), .ls (n_want_v), .li (n_like_k), .ls (n_like_v), .li (n_mine_k), .ls (n_mine_v), .li (n_theirs_k), .ls (n_theirs_v), .li (n_due0), .ls (n_due1), .b (n_server), .b (false)])
          (chk (decide ((0 : Int) ≤ 0 ∧ 0 < (↑(ByteArray.size o_Data) : Int))) <|
           one (bt o_Data 0) fun x532 =>
           one (wrapI .i64 x532) fun x533 =>
           chk (condSl (↑(ByteArray.size o_Data) : Int) (Option.some 1) Option.none) <|
           br (o_Type == 32)
             (chk (decide (Int.ofNat (List.length n_due0) = Int.ofNat (List.length n_due0)) && true && true) <|
              out (nego_changed n_want_k n_want_v n_like_k n_like_v n_mine_k n_mine_v n_theirs_k n_theirs_v n_due0 n_due1 n_server x533 (strSlO o_Data (Option.some 1) Option.none) must) fun r534 =>
              un_li r534 fun x535 r536 =>
              un_ls r536 fun x537 r538 =>
              un_li r538 fun x539 r540 =>
              un_ls r540 fun x541 r542 =>
              un_li r542 fun x543 r544 =>
              un_ls r544 fun x545 r546 =>
              un_li r546 fun x547 r548 =>
              un_ls r548 fun x549 r550 =>
              un_li r550 fun x551 r552 =>
              un_ls r552 fun x553 r554 =>
              un_b r554 fun x555 r556 =>
              un_b r556 fun x557 r558 =>
              un_nil r558 <|
              chk (decide (Int.ofNat (List.length x551) = Int.ofNat (List.length x551)) && true && true) <|
              some [.li (x535), .ls (x537), .li (x539), .ls (x541), .li (x543), .ls (x545), .li (x547), .ls (x549), .li (x551), .ls (x553), .b (x555), .b (x557)])
             (br (o_Type == 34)
                (chk (decide (Int.ofNat (List.length n_due0) = Int.ofNat (List.length n_due0)) && true && true) <|
                 out (nego_answers n_want_k n_want_v n_like_k n_like_v n_mine_k n_mine_v n_theirs_k n_theirs_v n_due0 n_due1 n_server 33 x533 { data := #[] } must) fun r559 =>
                 un_li r559 fun x560 r561 =>
                 un_ls r561 fun x562 r563 =>
                 un_li r563 fun x564 r565 =>
                 un_ls r565 fun x566 r567 =>
                 un_li r567 fun x568 r569 =>
                 un_ls r569 fun x570 r571 =>
                 un_li r571 fun x572 r573 =>
                 un_ls r573 fun x574 r575 =>
                 un_li r575 fun x576 r577 =>
                 un_ls r577 fun x578 r579 =>
                 un_b r579 fun x580 r581 =>
                 un_b r581 fun x582 r583 =>
                 un_nil r583 <|
                 chk (decide (Int.ofNat (List.length x576) = Int.ofNat (List.length x576)) && true && true) <|
                 some [.li (x560), .ls (x562), .li (x564), .ls (x566), .li (x568), .ls (x570), .li (x572), .ls (x574), .li (x576), .ls (x578), .b (x580), .b (x582)])
                (br (o_Type == 35)
                   (chk (decide (Int.ofNat (List.length n_due0) = Int.ofNat (List.length n_due0)) && true && true) <|
                    out (nego_confirmed n_want_k n_want_v n_like_k n_like_v n_mine_k n_mine_v n_theirs_k n_theirs_v n_due0 n_due1 n_server x533 (strSlO o_Data (Option.some 1) Option.none)) fun r584 =>
                    un_li r584 fun x585 r586 =>
                    un_ls r586 fun x587 r588 =>
                    un_li r588 fun x589 r590 =>
                    un_ls r590 fun x591 r592 =>
                    un_li r592 fun x593 r594 =>
                    un_ls r594 fun x595 r596 =>
                    un_li r596 fun x597 r598 =>
                    un_ls r598 fun x599 r600 =>
                    un_li r600 fun x601 r602 =>
                    un_ls r602 fun x603 r604 =>
                    un_b r604 fun x605 r606 =>
                    un_b r606 fun x607 r608 =>
                    un_nil r608 <|
                    chk (decide (Int.ofNat (List.length x601) = Int.ofNat (List.length x601)) && true && true) <|
                    some [.li (x585), .ls (x587), .li (x589), .ls (x591), .li (x593), .ls (x595), .li (x597), .ls (x599), .li (x601), .ls (x603), .b (x605), .b (x607)])
                   (chk (decide (Int.ofNat (List.length n_due0) = Int.ofNat (List.length n_due0)) && true && true) <|
                    some [.li (n_want_k), .ls (n_want_v), .li (n_like_k), .ls (n_like_v), .li (n_mine_k), .ls (n_mine_v), .li (n_theirs_k), .ls (n_theirs_v), .li (n_due0), .ls (n_due1), .b (n_server), .b (true)]))))))
def nego_Take_5_B  {α : Type} (kx : Nat → List Leaf → Option α) (kr : List Leaf → Option α) (again : List Int → List ByteArray → List Int → List ByteArray → List Int → List ByteArray → List Int → List ByteArray → List Int → List ByteArray → List Int → List ByteArray → Bool → Int → Bool → Int → Option α) (n_want_k : List Int) (n_want_v : List ByteArray) (n_like_k : List Int) (n_like_v : List ByteArray) (n_mine_k : List Int) (n_mine_v : List ByteArray) (n_theirs_k : List Int) (n_theirs_v : List ByteArray) (os0 : List Int) (os1 : List ByteArray) (n_due0 : List Int) (n_due1 : List ByteArray) (n_server : Bool) (t12 : Int) (must : Bool) (t11 : Int) : Option α :=
  br (decide (t12 < t11))
    (chk (decide ((0 : Int) ≤ t12 ∧ t12 < Int.ofNat (List.length os0))) <|
     chk (decide ((0 : Int) ≤ t12 ∧ t12 < Int.ofNat (List.length os0))) <|
     br (List.getD os0 (Int.toNat t12) 0 == 1)
       (br (!must)
          (one (addI .i64 t12 1) fun x716 =>
           chk (decide (Int.ofNat (List.length n_due0) = Int.ofNat (List.length n_due0)) && true && true) <|
           chk (decide (Int.ofNat (List.length os0) = Int.ofNat (List.length os0)) && true) <|
           again (n_want_k) (n_want_v) (n_like_k) (n_like_v) (n_mine_k) (n_mine_v) (n_theirs_k) (n_theirs_v) (os0) (os1) (n_due0) (n_due1) (n_server) (x716) (true) (t11))
          (chk (decide (Int.ofNat (List.length n_due0) = Int.ofNat (List.length n_due0)) && true && true) <|
           out (nego_one n_want_k n_want_v n_like_k n_like_v n_mine_k n_mine_v n_theirs_k n_theirs_v n_due0 n_due1 n_server (List.getD os0 (Int.toNat t12) 0) (List.getD os1 (Int.toNat t12) ByteArray.empty) must) fun r717 =>
           un_li r717 fun x718 r719 =>
           un_ls r719 fun x720 r721 =>
           un_li r721 fun x722 r723 =>
           un_ls r723 fun x724 r725 =>
           un_li r725 fun x726 r727 =>
           un_ls r727 fun x728 r729 =>
           un_li r729 fun x730 r731 =>
           un_ls r731 fun x732 r733 =>
           un_li r733 fun x734 r735 =>
           un_ls r735 fun x736 r737 =>
           un_b r737 fun x738 r739 =>
           un_b r739 fun x740 r741 =>
           un_nil r741 <|
           br (!x740)
             (chk (decide (Int.ofNat (List.length x734) = Int.ofNat (List.length x734)) && true && true) <|
              kr [.li (x718), .ls (x720), .li (x722), .ls (x724), .li (x726), .ls (x728), .li (x730), .ls (x732), .li (os0), .ls (os1), .li (x734), .ls (x736), .b (x738), .b (false)])
             (one (addI .i64 t12 1) fun x742 =>
              chk (decide (Int.ofNat (List.length x734) = Int.ofNat (List.length x734)) && true && true) <|
              chk (decide (Int.ofNat (List.length os0) = Int.ofNat (List.length os0)) && true) <|
              again (x718) (x720) (x722) (x724) (x726) (x728) (x730) (x732) (os0) (os1) (x734) (x736) (x738) (x742) (false) (t11))))
       (chk (decide (Int.ofNat (List.length n_due0) = Int.ofNat (List.length n_due0)) && true && true) <|
        out (nego_one n_want_k n_want_v n_like_k n_like_v n_mine_k n_mine_v n_theirs_k n_theirs_v n_due0 n_due1 n_server (List.getD os0 (Int.toNat t12) 0) (List.getD os1 (Int.toNat t12) ByteArray.empty) must) fun r743 =>
        un_li r743 fun x744 r745 =>
        un_ls r745 fun x746 r747 =>
        un_li r747 fun x748 r749 =>
        un_ls r749 fun x750 r751 =>
        un_li r751 fun x752 r753 =>
        un_ls r753 fun x754 r755 =>
        un_li r755 fun x756 r757 =>
        un_ls r757 fun x758 r759 =>
        un_li r759 fun x760 r761 =>
        un_ls r761 fun x762 r763 =>
        un_b r763 fun x764 r765 =>
        un_b r765 fun x766 r767 =>
        un_nil r767 <|
        br (!x766)
          (chk (decide (Int.ofNat (List.length x760) = Int.ofNat (List.length x760)) && true && true) <|
           kr [.li (x744), .ls (x746), .li (x748), .ls (x750), .li (x752), .ls (x754), .li (x756), .ls (x758), .li (os0), .ls (os1), .li (x760), .ls (x762), .b (x764), .b (false)])
          (one (addI .i64 t12 1) fun x768 =>
           chk (decide (Int.ofNat (List.length x760) = Int.ofNat (List.length x760)) && true && true) <|
           chk (decide (Int.ofNat (List.length os0) = Int.ofNat (List.length os0)) && true) <|
           again (x744) (x746) (x748) (x750) (x752) (x754) (x756) (x758) (os0) (os1) (x760) (x762) (x764) (x768) (false) (t11))))
    (chk (decide (Int.ofNat (List.length n_due0) = Int.ofNat (List.length n_due0)) && true && true) <|
     kx 0 [.li (n_want_k), .ls (n_want_v), .li (n_like_k), .ls (n_like_v), .li (n_mine_k), .ls (n_mine_v), .li (n_theirs_k), .ls (n_theirs_v), .li (os0), .ls (os1), .li (n_due0), .ls (n_due1), .b (n_server)])
def nego_Take_5_L {α : Type} (kx : Nat → List Leaf → Option α) (kr : List Leaf → Option α) : Nat → List Int → List ByteArray → List Int → List ByteArray → List Int → List ByteArray → List Int → List ByteArray → List Int → List ByteArray → List Int → List ByteArray → Bool → Int → Bool → Int → Option α
  | 0, _, _, _, _, _, _, _, _, _, _, _, _, _, _, _, _ => none
  | n + 1, n_want_k, n_want_v, n_like_k, n_like_v, n_mine_k, n_mine_v, n_theirs_k, n_theirs_v, os0, os1, n_due0, n_due1, n_server, t12, must, t11 => nego_Take_5_B  kx kr (nego_Take_5_L kx kr n) n_want_k n_want_v n_like_k n_like_v n_mine_k n_mine_v n_theirs_k n_theirs_v os0 os1 n_due0 n_due1 n_server t12 must t11
def nego_Take_5_F (L5 : ({β : Type} → (Nat → List Leaf → Option β) → (List Leaf → Option β) → Nat → List Int → List ByteArray → List Int → List ByteArray → List Int → List ByteArray → List Int → List ByteArray → List Int → List ByteArray → List Int → List ByteArray → Bool → Int → Bool → Int → Option β)) {α : Type} (n : Nat) (ls : List Leaf) (kx : Nat → List Leaf → Option α) (kr : List Leaf → Option α) : Option α := un_li ls fun n_want_k rr => un_ls rr fun n_want_v rr => un_li rr fun n_like_k rr => un_ls rr fun n_like_v rr => un_li rr fun n_mine_k rr => un_ls rr fun n_mine_v rr => un_li rr fun n_theirs_k rr => un_ls rr fun n_theirs_v rr => un_li rr fun os0 rr => un_ls rr fun os1 rr => un_li rr fun n_due0 rr => un_ls rr fun n_due1 rr => un_b rr fun n_server rr => un_i rr fun t12 rr => un_b rr fun must rr => un_i rr fun t11 rr => un_nil rr (L5 kx kr n n_want_k n_want_v n_like_k n_like_v n_mine_k n_mine_v n_theirs_k n_theirs_v os0 os1 n_due0 n_due1 n_server t12 must t11)
def nego_Take_d (L5 : ({β : Type} → (Nat → List Leaf → Option β) → (List Leaf → Option β) → Nat → List Int → List ByteArray → List Int → List ByteArray → List Int → List ByteArray → List Int → List ByteArray → List Int → List ByteArray → List Int → List ByteArray → Bool → Int → Bool → Int → Option β)) (n_want_k : List Int) (n_want_v : List ByteArray) (n_like_k : List Int) (n_like_v : List ByteArray) (n_mine_k : List Int) (n_mine_v : List ByteArray) (n_theirs_k : List Int) (n_theirs_v : List ByteArray) (n_due0 : List Int) (n_due1 : List ByteArray) (os0 : List Int) (os1 : List ByteArray) (n_server : Bool) : Option (List Leaf) :=
  one (Int.ofNat (List.length os0)) fun x769 =>
  chk (decide (Int.ofNat (List.length n_due0) = Int.ofNat (List.length n_due0)) && true && true) <|
  chk (decide (Int.ofNat (List.length os0) = Int.ofNat (List.length os0)) && true) <|
  L5
    (fun i770 r771 =>
     br (Nat.beq 0 i770)
       (un_li r771 fun x772 r773 =>
        un_ls r773 fun x774 r775 =>
        un_li r775 fun x776 r777 =>
        un_ls r777 fun x778 r779 =>
        un_li r779 fun x780 r781 =>
        un_ls r781 fun x782 r783 =>
        un_li r783 fun x784 r785 =>
        un_ls r785 fun x786 r787 =>
        un_li r787 fun x788 r789 =>
        un_ls r789 fun x790 r791 =>
        un_li r791 fun x792 r793 =>
        un_ls r793 fun x794 r795 =>
        un_b r795 fun x796 r797 =>
        un_nil r797 <|
        chk (decide (Int.ofNat (List.length x792) = Int.ofNat (List.length x792)) && true && true) <|
        some [.li (x772), .ls (x774), .li (x776), .ls (x778), .li (x780), .ls (x782), .li (x784), .ls (x786), .li (x792), .ls (x794), .b (x796), .b (true)])
       (none))
    (fun r798 =>
     un_li r798 fun x799 r800 =>
     un_ls r800 fun x801 r802 =>
     un_li r802 fun x803 r804 =>
     un_ls r804 fun x805 r806 =>
     un_li r806 fun x807 r808 =>
     un_ls r808 fun x809 r810 =>
     un_li r810 fun x811 r812 =>
     un_ls r812 fun x813 r814 =>
     un_li r814 fun x815 r816 =>
     un_ls r816 fun x817 r818 =>
     un_li r818 fun x819 r820 =>
     un_ls r820 fun x821 r822 =>
     un_b r822 fun x823 r824 =>
     un_b r824 fun x825 r826 =>
     un_nil r826 <|
     chk (decide (Int.ofNat (List.length x819) = Int.ofNat (List.length x819)) && true && true) <|
     some [.li (x799), .ls (x801), .li (x803), .ls (x805), .li (x807), .ls (x809), .li (x811), .ls (x813), .li (x819), .ls (x821), .b (x823), .b (x825)])
    top (n_want_k) (n_want_v) (n_like_k) (n_like_v) (n_mine_k) (n_mine_v) (n_theirs_k) (n_theirs_v) (os0) (os1) (n_due0) (n_due1) (n_server) (0) (false) (x769)
def nego_Take (n_want_k : List Int) (n_want_v : List ByteArray) (n_like_k : List Int) (n_like_v : List ByteArray) (n_mine_k : List Int) (n_mine_v : List ByteArray) (n_theirs_k : List Int) (n_theirs_v : List ByteArray) (n_due0 : List Int) (n_due1 : List ByteArray) (os0 : List Int) (os1 : List ByteArray) (n_server : Bool) : Option (List Leaf) := nego_Take_d @nego_Take_5_L n_want_k n_want_v n_like_k n_like_v n_mine_k n_mine_v n_theirs_k n_theirs_v n_due0 n_due1 os0 os1 n_server
def nego_Mine (n_want_k : List Int) (n_want_v : List ByteArray) (n_like_k : List Int) (n_like_v : List ByteArray) (n_mine_k : List Int) (n_mine_v : List ByteArray) (n_theirs_k : List Int) (n_theirs_v : List ByteArray) (n_due0 : List Int) (n_due1 : List ByteArray) (n_server : Bool) (f : Int) : Option (List Leaf) :=
  some [.s (mget ByteArray.empty n_mine_k n_mine_v f)]
def nego_Theirs (n_want_k : List Int) (n_want_v : List ByteArray) (n_like_k : List Int) (n_like_v : List ByteArray) (n_mine_k : List Int) (n_mine_v : List ByteArray) (n_theirs_k : List Int) (n_theirs_v : List ByteArray) (n_due0 : List Int) (n_due1 : List ByteArray) (n_server : Bool) (f : Int) : Option (List Leaf) :=
  some [.s (mget ByteArray.empty n_theirs_k n_theirs_v f)]
def nego_Done (n_want_k : List Int) (n_want_v : List ByteArray) (n_like_k : List Int) (n_like_v : List ByteArray) (n_mine_k : List Int) (n_mine_v : List ByteArray) (n_theirs_k : List Int) (n_theirs_v : List ByteArray) (n_due0 : List Int) (n_due1 : List ByteArray) (n_server : Bool) : Option (List Leaf) :=
  one ((↑(List.length n_want_k) : Int)) fun x827 =>
  some [.b (x827 == 0)]
end Go.Sx.T

