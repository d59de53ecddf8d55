import Derived.Test.YtdjnfdcoilgegaaGreatDoorL6
import Derived.Test.YtdjnfdcoilgegaaGreatDoorYNegoSpec
import Derived.Test.YtdjnfdcoilgegaaGreatDoorYR18Spec
set_option linter.all false
namespace Go.Sx.T
open Go Go.Sx
def NegoAsk_8_B  {α : Type} (kx : Nat → List Leaf → Option α) (kr : List Leaf → Option α) (again : List Int → List Int → List Bool → List Int → List ByteArray → List Int → List ByteArray → List Int → List ByteArray → List Int → List ByteArray → List Int → List ByteArray → List Int → Bool → Int → Int → Option α) (fs : List Int) (asked_k : List Int) (asked_v : List Bool) (n_want_k : List Int) (n_want_v : List ByteArray) (n_like_k : List Int) (n_like_v : List ByteArray) (n_mine_k : List Int) (n_mine_v : List ByteArray) (n_theirs_k : List Int) (n_theirs_v : List ByteArray) (n_due0 : List Int) (n_due1 : List ByteArray) (all : List Int) (n_server : Bool) (i : Int) (times : Int) : Option α :=
  one (Int.ofNat (List.length fs)) fun x2163 =>
  br (decide (i < x2163))
    (br (decide (i < 6))
       (chk (decide ((0 : Int) ≤ i ∧ i < Int.ofNat (List.length fs))) <|
        chk (decide ((0 : Int) ≤ i ∧ i < Int.ofNat (List.length fs))) <|
        one (remI .i64 (List.getD fs (Int.toNat i) 0) 4) fun x2164 =>
        one (addI .i64 x2164 4) fun x2165 =>
        one (remI .i64 x2165 4) fun x2166 =>
        chk (decide ((0 : Int) ≤ x2166 ∧ x2166 < Int.ofNat (List.length all))) <|
        chk (decide ((0 : Int) ≤ x2166 ∧ x2166 < Int.ofNat (List.length all))) <|
        out (feat_Default (List.getD all (Int.toNat x2166) 0)) fun r2167 =>
        un_s r2167 fun x2168 r2169 =>
        un_nil r2169 <|
        chk (decide (Int.ofNat (List.length n_due0) = Int.ofNat (List.length n_due0)) && true && true) <|
        out (nego_Want n_want_k n_want_v n_like_k n_like_v n_mine_k n_mine_v n_theirs_k n_theirs_v n_due0 n_due1 n_server (List.getD all (Int.toNat x2166) 0) x2168) fun r2170 =>
        un_li r2170 fun x2171 r2172 =>
        un_ls r2172 fun x2173 r2174 =>
        un_li r2174 fun x2175 r2176 =>
        un_ls r2176 fun x2177 r2178 =>
        un_li r2178 fun x2179 r2180 =>
        un_ls r2180 fun x2181 r2182 =>
        un_li r2182 fun x2183 r2184 =>
        un_ls r2184 fun x2185 r2186 =>
        un_li r2186 fun x2187 r2188 =>
        un_ls r2188 fun x2189 r2190 =>
        un_b r2190 fun x2191 r2192 =>
        un_i r2192 fun x2193 r2194 =>
        un_nil r2194 <|
        br (x2193 != 0)
          (kr [.li (fs), .b (false)])
          (one (addI .i64 i 1) fun x2195 =>
           chk (decide (Int.ofNat (List.length x2187) = Int.ofNat (List.length x2187)) && true && true) <|
           chk (decide (Int.ofNat (List.length fs) = Int.ofNat (List.length fs)) && (decide (Int.ofNat (List.length all) = Int.ofNat (List.length all)) && true)) <|
           again (fs) (mputK asked_k (List.getD all (Int.toNat x2166) 0)) (mputV asked_k asked_v (List.getD all (Int.toNat x2166) 0) true) (x2171) (x2173) (x2175) (x2177) (x2179) (x2181) (x2183) (x2185) (x2187) (x2189) (all) (x2191) (x2195) (times)))
       (chk (decide (Int.ofNat (List.length n_due0) = Int.ofNat (List.length n_due0)) && true && true) <|
        chk (decide (Int.ofNat (List.length all) = Int.ofNat (List.length all)) && true) <|
        kx 0 [.li (fs), .li (asked_k), .lb (asked_v), .li (n_want_k), .ls (n_want_v), .li (n_like_k), .ls (n_like_v), .li (n_mine_k), .ls (n_mine_v), .li (n_theirs_k), .ls (n_theirs_v), .li (n_due0), .ls (n_due1), .li (all), .b (n_server), .i (times)]))
    (chk (decide (Int.ofNat (List.length n_due0) = Int.ofNat (List.length n_due0)) && true && true) <|
     chk (decide (Int.ofNat (List.length all) = Int.ofNat (List.length all)) && true) <|
     kx 0 [.li (fs), .li (asked_k), .lb (asked_v), .li (n_want_k), .ls (n_want_v), .li (n_like_k), .ls (n_like_v), .li (n_mine_k), .ls (n_mine_v), .li (n_theirs_k), .ls (n_theirs_v), .li (n_due0), .ls (n_due1), .li (all), .b (n_server), .i (times)])
def NegoAsk_8_L {α : Type} (kx : Nat → List Leaf → Option α) (kr : List Leaf → Option α) : Nat → List Int → List Int → List Bool → List Int → List ByteArray → List Int → List ByteArray → List Int → List ByteArray → List Int → List ByteArray → List Int → List ByteArray → List Int → Bool → Int → Int → Option α
  | 0, _, _, _, _, _, _, _, _, _, _, _, _, _, _, _, _, _ => none
  | n + 1, fs, asked_k, asked_v, n_want_k, n_want_v, n_like_k, n_like_v, n_mine_k, n_mine_v, n_theirs_k, n_theirs_v, n_due0, n_due1, all, n_server, i, times => NegoAsk_8_B  kx kr (NegoAsk_8_L kx kr n) fs asked_k asked_v n_want_k n_want_v n_like_k n_like_v n_mine_k n_mine_v n_theirs_k n_theirs_v n_due0 n_due1 all n_server i times
def NegoAsk_8_F (L8 : ({β : Type} → (Nat → List Leaf → Option β) → (List Leaf → Option β) → Nat → List Int → List Int → List Bool → List Int → List ByteArray → List Int → List ByteArray → List Int → List ByteArray → List Int → List ByteArray → List Int → List ByteArray → List Int → Bool → Int → Int → Option β)) {α : Type} (n : Nat) (ls : List Leaf) (kx : Nat → List Leaf → Option α) (kr : List Leaf → Option α) : Option α := un_li ls fun fs rr => un_li rr fun asked_k rr => un_lb rr fun asked_v rr => un_li rr fun n_want_k rr => un_ls rr fun n_want_v rr => un_li rr fun n_like_k rr => un_ls rr fun n_like_v rr => un_li rr fun n_mine_k rr => un_ls rr fun n_mine_v rr => un_li rr fun n_theirs_k rr => un_ls rr fun n_theirs_v rr => un_li rr fun n_due0 rr => un_ls rr fun n_due1 rr => un_li rr fun all rr => un_b rr fun n_server rr => un_i rr fun i rr => un_i rr fun times rr => un_nil rr (L8 kx kr n fs asked_k asked_v n_want_k n_want_v n_like_k n_like_v n_mine_k n_mine_v n_theirs_k n_theirs_v n_due0 n_due1 all n_server i times)
def NegoAsk_20_B  {α : Type} (kx : Nat → List Leaf → Option α) (kr : List Leaf → Option α) (again : List Int → List Int → List ByteArray → List Int → List Bool → List Int → List Int → List ByteArray → List Int → List ByteArray → List Int → List ByteArray → List Int → List ByteArray → List Int → List ByteArray → Bool → Int → Int → Int → Int → Int → Option α) (fs : List Int) (l0 : List Int) (l1 : List ByteArray) (asked_k : List Int) (asked_v : List Bool) (t61 : List Int) (n_want_k : List Int) (n_want_v : List ByteArray) (n_like_k : List Int) (n_like_v : List ByteArray) (n_mine_k : List Int) (n_mine_v : List ByteArray) (n_theirs_k : List Int) (n_theirs_v : List ByteArray) (n_due0 : List Int) (n_due1 : List ByteArray) (n_server : Bool) (t63 : Int) (i : Int) (times : Int) (k : Int) (t62 : Int) : Option α :=
  br (decide (t63 < t62))
    (chk (decide ((0 : Int) ≤ t63 ∧ t63 < Int.ofNat (List.length t61))) <|
     chk (decide ((0 : Int) ≤ t63 ∧ t63 < Int.ofNat (List.length t61))) <|
     br (!mget false asked_k asked_v (List.getD t61 (Int.toNat t63) 0))
       (one (addI .i64 t63 1) fun x2290 =>
        chk (decide (Int.ofNat (List.length n_due0) = Int.ofNat (List.length n_due0)) && true && true) <|
        chk (decide (Int.ofNat (List.length l0) = Int.ofNat (List.length l0)) && (decide (Int.ofNat (List.length t61) = Int.ofNat (List.length t61)) && (decide (Int.ofNat (List.length t61) = Int.ofNat (List.length t61)) && true))) <|
        again (fs) (l0) (l1) (asked_k) (asked_v) (t61) (n_want_k) (n_want_v) (n_like_k) (n_like_v) (n_mine_k) (n_mine_v) (n_theirs_k) (n_theirs_v) (n_due0) (n_due1) (n_server) (x2290) (i) (times) (k) (t62))
       (none))
    (chk (decide (Int.ofNat (List.length n_due0) = Int.ofNat (List.length n_due0)) && true && true) <|
     chk (decide (Int.ofNat (List.length t61) = Int.ofNat (List.length t61)) && (decide (Int.ofNat (List.length l0) = Int.ofNat (List.length l0)) && true)) <|
     kx 4 [.li (fs), .li (asked_k), .lb (asked_v), .li (n_want_k), .ls (n_want_v), .li (n_like_k), .ls (n_like_v), .li (n_mine_k), .ls (n_mine_v), .li (n_theirs_k), .ls (n_theirs_v), .li (n_due0), .ls (n_due1), .li (t61), .li (l0), .ls (l1), .b (n_server), .i (times), .i (k), .i (i)])
def NegoAsk_20_L {α : Type} (kx : Nat → List Leaf → Option α) (kr : List Leaf → Option α) : Nat → List Int → List Int → List ByteArray → List Int → List Bool → List Int → List Int → List ByteArray → List Int → List ByteArray → List Int → List ByteArray → List Int → List ByteArray → List Int → List ByteArray → Bool → Int → Int → Int → Int → Int → Option α
  | 0, _, _, _, _, _, _, _, _, _, _, _, _, _, _, _, _, _, _, _, _, _, _ => none
  | n + 1, fs, l0, l1, asked_k, asked_v, t61, n_want_k, n_want_v, n_like_k, n_like_v, n_mine_k, n_mine_v, n_theirs_k, n_theirs_v, n_due0, n_due1, n_server, t63, i, times, k, t62 => NegoAsk_20_B  kx kr (NegoAsk_20_L kx kr n) fs l0 l1 asked_k asked_v t61 n_want_k n_want_v n_like_k n_like_v n_mine_k n_mine_v n_theirs_k n_theirs_v n_due0 n_due1 n_server t63 i times k t62
def NegoAsk_20_F (L20 : ({β : Type} → (Nat → List Leaf → Option β) → (List Leaf → Option β) → Nat → List Int → List Int → List ByteArray → List Int → List Bool → List Int → List Int → List ByteArray → List Int → List ByteArray → List Int → List ByteArray → List Int → List ByteArray → List Int → List ByteArray → Bool → Int → Int → Int → Int → Int → Option β)) {α : Type} (n : Nat) (ls : List Leaf) (kx : Nat → List Leaf → Option α) (kr : List Leaf → Option α) : Option α := un_li ls fun fs rr => un_li rr fun l0 rr => un_ls rr fun l1 rr => un_li rr fun asked_k rr => un_lb rr fun asked_v rr => un_li rr fun t61 rr => un_li rr fun n_want_k rr => un_ls rr fun n_want_v rr => un_li rr fun n_like_k rr => un_ls rr fun n_like_v rr => un_li rr fun n_mine_k rr => un_ls rr fun n_mine_v rr => un_li rr fun n_theirs_k rr => un_ls rr fun n_theirs_v rr => un_li rr fun n_due0 rr => un_ls rr fun n_due1 rr => un_b rr fun n_server rr => un_i rr fun t63 rr => un_i rr fun i rr => un_i rr fun times rr => un_i rr fun k rr => un_i rr fun t62 rr => un_nil rr (L20 kx kr n fs l0 l1 asked_k asked_v t61 n_want_k n_want_v n_like_k n_like_v n_mine_k n_mine_v n_theirs_k n_theirs_v n_due0 n_due1 n_server t63 i times k t62)
def NegoAsk_15_B (L20 : ({β : Type} → (Nat → List Leaf → Option β) → (List Leaf → Option β) → Nat → List Int → List Int → List ByteArray → List Int → List Bool → List Int → List Int → List ByteArray → List Int → List ByteArray → List Int → List ByteArray → List Int → List ByteArray → List Int → List ByteArray → Bool → Int → Int → Int → Int → Int → Option β)) {α : Type} (kx : Nat → List Leaf → Option α) (kr : List Leaf → Option α) (again : List Int → List Int → List Bool → List Int → List ByteArray → List Int → List ByteArray → List Int → List ByteArray → List Int → List ByteArray → List Int → List ByteArray → List Int → Bool → Int → Int → Option α) (fs : List Int) (asked_k : List Int) (asked_v : List Bool) (n_want_k : List Int) (n_want_v : List ByteArray) (n_like_k : List Int) (n_like_v : List ByteArray) (n_mine_k : List Int) (n_mine_v : List ByteArray) (n_theirs_k : List Int) (n_theirs_v : List ByteArray) (n_due0 : List Int) (n_due1 : List ByteArray) (all : List Int) (n_server : Bool) (k : Int) (times : Int) : Option α :=
  one (remI .i64 times 5) fun x2371 =>
  one (addI .i64 x2371 5) fun x2372 =>
  one (remI .i64 x2372 5) fun x2373 =>
  br (decide (k ≤ x2373))
    (chk (decide (Int.ofNat (List.length n_due0) = Int.ofNat (List.length n_due0)) && true && true) <|
     out (nego_Opts n_want_k n_want_v n_like_k n_like_v n_mine_k n_mine_v n_theirs_k n_theirs_v n_due0 n_due1 n_server) fun r2374 =>
     un_li r2374 fun x2375 r2376 =>
     un_ls r2376 fun x2377 r2378 =>
     un_li r2378 fun x2379 r2380 =>
     un_ls r2380 fun x2381 r2382 =>
     un_li r2382 fun x2383 r2384 =>
     un_ls r2384 fun x2385 r2386 =>
     un_li r2386 fun x2387 r2388 =>
     un_ls r2388 fun x2389 r2390 =>
     un_li r2390 fun x2391 r2392 =>
     un_ls r2392 fun x2393 r2394 =>
     un_li r2394 fun x2395 r2396 =>
     un_ls r2396 fun x2397 r2398 =>
     un_b r2398 fun x2399 r2400 =>
     un_nil r2400 <|
     one (Int.ofNat (List.length all)) fun x2401 =>
     chk (decide (Int.ofNat (List.length x2391) = Int.ofNat (List.length x2391)) && true && true) <|
     chk (decide (Int.ofNat (List.length x2395) = Int.ofNat (List.length x2395)) && (decide (Int.ofNat (List.length all) = Int.ofNat (List.length all)) && (decide (Int.ofNat (List.length all) = Int.ofNat (List.length all)) && true))) <|
     L20
       (fun i2402 r2403 =>
        br (Nat.beq 4 i2402)
          (un_li r2403 fun x2404 r2405 =>
           un_li r2405 fun x2406 r2407 =>
           un_lb r2407 fun x2408 r2409 =>
           un_li r2409 fun x2410 r2411 =>
           un_ls r2411 fun x2412 r2413 =>
           un_li r2413 fun x2414 r2415 =>
           un_ls r2415 fun x2416 r2417 =>
           un_li r2417 fun x2418 r2419 =>
           un_ls r2419 fun x2420 r2421 =>
           un_li r2421 fun x2422 r2423 =>
           un_ls r2423 fun x2424 r2425 =>
           un_li r2425 fun x2426 r2427 =>
           un_ls r2427 fun x2428 r2429 =>
           un_li r2429 fun x2430 r2431 =>
           un_li r2431 fun x2432 r2433 =>
           un_ls r2433 fun x2434 r2435 =>
           un_b r2435 fun x2436 r2437 =>
           un_i r2437 fun x2438 r2439 =>
           un_i r2439 fun x2440 r2441 =>
           un_i r2441 fun x2442 r2443 =>
           un_nil r2443 <|
           one (Int.ofNat (List.length x2432)) fun x2444 =>
           br (x2442 != x2444)
             (kr [.li (x2404), .b (false)])
             (chk (decide (Int.ofNat (List.length x2426) = Int.ofNat (List.length x2426)) && true && true) <|
              out (nego_Done x2410 x2412 x2414 x2416 x2418 x2420 x2422 x2424 x2426 x2428 x2436) fun r2445 =>
              un_b r2445 fun x2446 r2447 =>
              un_nil r2447 <|
              one ((↑(List.length x2406) : Int)) fun x2448 =>
              br (!x2446 == (x2448 == 0))
                (kr [.li (x2404), .b (false)])
                (one (addI .i64 x2440 1) fun x2449 =>
                 chk (decide (Int.ofNat (List.length x2426) = Int.ofNat (List.length x2426)) && true && true) <|
                 chk (decide (Int.ofNat (List.length x2430) = Int.ofNat (List.length x2430)) && true) <|
                 again (x2404) (x2406) (x2408) (x2410) (x2412) (x2414) (x2416) (x2418) (x2420) (x2422) (x2424) (x2426) (x2428) (x2430) (x2436) (x2449) (x2438))))
          (none))
       (fun r2450 =>
        un_nil r2450 <|
        none)
       top (fs) (x2395) (x2397) (asked_k) (asked_v) (all) (x2375) (x2377) (x2379) (x2381) (x2383) (x2385) (x2387) (x2389) (x2391) (x2393) (x2399) (0) (0) (times) (k) (x2401))
    (chk (decide (Int.ofNat (List.length n_due0) = Int.ofNat (List.length n_due0)) && true && true) <|
     kx 2 [.li (fs), .li (asked_k), .lb (asked_v), .li (n_want_k), .ls (n_want_v), .li (n_like_k), .ls (n_like_v), .li (n_mine_k), .ls (n_mine_v), .li (n_theirs_k), .ls (n_theirs_v), .li (n_due0), .ls (n_due1), .b (n_server)])
def NegoAsk_15_L {α : Type} (kx : Nat → List Leaf → Option α) (kr : List Leaf → Option α) : Nat → List Int → List Int → List Bool → List Int → List ByteArray → List Int → List ByteArray → List Int → List ByteArray → List Int → List ByteArray → List Int → List ByteArray → List Int → Bool → Int → Int → Option α
  | 0, _, _, _, _, _, _, _, _, _, _, _, _, _, _, _, _, _ => none
  | n + 1, fs, asked_k, asked_v, n_want_k, n_want_v, n_like_k, n_like_v, n_mine_k, n_mine_v, n_theirs_k, n_theirs_v, n_due0, n_due1, all, n_server, k, times => NegoAsk_15_B @NegoAsk_20_L kx kr (NegoAsk_15_L kx kr n) fs asked_k asked_v n_want_k n_want_v n_like_k n_like_v n_mine_k n_mine_v n_theirs_k n_theirs_v n_due0 n_due1 all n_server k times
def NegoAsk_15_F (L15 : ({β : Type} → (Nat → List Leaf → Option β) → (List Leaf → Option β) → Nat → List Int → List Int → List Bool → List Int → List ByteArray → List Int → List ByteArray → List Int → List ByteArray → List Int → List ByteArray → List Int → List ByteArray → List Int → Bool → Int → Int → Option β)) {α : Type} (n : Nat) (ls : List Leaf) (kx : Nat → List Leaf → Option α) (kr : List Leaf → Option α) : Option α := un_li ls fun fs rr => un_li rr fun asked_k rr => un_lb rr fun asked_v rr => un_li rr fun n_want_k rr => un_ls rr fun n_want_v rr => un_li rr fun n_like_k rr => un_ls rr fun n_like_v rr => un_li rr fun n_mine_k rr => un_ls rr fun n_mine_v rr => un_li rr fun n_theirs_k rr => un_ls rr fun n_theirs_v rr => un_li rr fun n_due0 rr => un_ls rr fun n_due1 rr => un_li rr fun all rr => un_b rr fun n_server rr => un_i rr fun k rr => un_i rr fun times rr => un_nil rr (L15 kx kr n fs asked_k asked_v n_want_k n_want_v n_like_k n_like_v n_mine_k n_mine_v n_theirs_k n_theirs_v n_due0 n_due1 all n_server k times)
def NegoAsk_d (L8 : ({β : Type} → (Nat → List Leaf → Option β) → (List Leaf → Option β) → Nat → List Int → List Int → List Bool → List Int → List ByteArray → List Int → List ByteArray → List Int → List ByteArray → List Int → List ByteArray → List Int → List ByteArray → List Int → Bool → Int → Int → Option β)) (L15 : ({β : Type} → (Nat → List Leaf → Option β) → (List Leaf → Option β) → Nat → List Int → List Int → List Bool → List Int → List ByteArray → List Int → List ByteArray → List Int → List ByteArray → List Int → List ByteArray → List Int → List ByteArray → List Int → Bool → Int → Int → Option β)) (fs : List Int) (times : Int) : Option (List Leaf) :=
  out (nego_New false) fun r2451 =>
  un_li r2451 fun x2452 r2453 =>
  un_ls r2453 fun x2454 r2455 =>
  un_li r2455 fun x2456 r2457 =>
  un_ls r2457 fun x2458 r2459 =>
  un_li r2459 fun x2460 r2461 =>
  un_ls r2461 fun x2462 r2463 =>
  un_li r2463 fun x2464 r2465 =>
  un_ls r2465 fun x2466 r2467 =>
  un_li r2467 fun x2468 r2469 =>
  un_ls r2469 fun x2470 r2471 =>
  un_b r2471 fun x2472 r2473 =>
  un_nil r2473 <|
  chk (decide (Int.ofNat (List.length x2468) = Int.ofNat (List.length x2468)) && true && true) <|
  chk (decide (Int.ofNat (List.length fs) = Int.ofNat (List.length fs)) && (decide ((↑(4 : Nat) : Int) = Int.ofNat (List.length [(1 : Int), (3 : Int), (6 : Int), (8 : Int)])) && true)) <|
  L8
    (fun i2474 r2475 =>
     br (Nat.beq 0 i2474)
       (un_li r2475 fun x2476 r2477 =>
        un_li r2477 fun x2478 r2479 =>
        un_lb r2479 fun x2480 r2481 =>
        un_li r2481 fun x2482 r2483 =>
        un_ls r2483 fun x2484 r2485 =>
        un_li r2485 fun x2486 r2487 =>
        un_ls r2487 fun x2488 r2489 =>
        un_li r2489 fun x2490 r2491 =>
        un_ls r2491 fun x2492 r2493 =>
        un_li r2493 fun x2494 r2495 =>
        un_ls r2495 fun x2496 r2497 =>
        un_li r2497 fun x2498 r2499 =>
        un_ls r2499 fun x2500 r2501 =>
        un_li r2501 fun x2502 r2503 =>
        un_b r2503 fun x2504 r2505 =>
        un_i r2505 fun x2506 r2507 =>
        un_nil r2507 <|
        chk (decide (Int.ofNat (List.length x2498) = Int.ofNat (List.length x2498)) && true && true) <|
        chk (decide (Int.ofNat (List.length x2502) = Int.ofNat (List.length x2502)) && true) <|
        L15
          (fun i2508 r2509 =>
           br (Nat.beq 2 i2508)
             (un_li r2509 fun x2510 r2511 =>
              un_li r2511 fun x2512 r2513 =>
              un_lb r2513 fun x2514 r2515 =>
              un_li r2515 fun x2516 r2517 =>
              un_ls r2517 fun x2518 r2519 =>
              un_li r2519 fun x2520 r2521 =>
              un_ls r2521 fun x2522 r2523 =>
              un_li r2523 fun x2524 r2525 =>
              un_ls r2525 fun x2526 r2527 =>
              un_li r2527 fun x2528 r2529 =>
              un_ls r2529 fun x2530 r2531 =>
              un_li r2531 fun x2532 r2533 =>
              un_ls r2533 fun x2534 r2535 =>
              un_b r2535 fun x2536 r2537 =>
              un_nil r2537 <|
              chk (decide (Int.ofNat (List.length x2532) = Int.ofNat (List.length x2532)) && true && true) <|
              chk (decide ((↑(1 : Nat) : Int) = Int.ofNat (List.length [(34 : Int)])) && true) <|
              out (nego_Take x2516 x2518 x2520 x2522 x2524 x2526 x2528 x2530 x2532 x2534 [(34 : Int)] [{ data := #[(8 : UInt8), (1 : UInt8)] }] x2536) fun r2538 =>
              un_li r2538 fun x2539 r2540 =>
              un_ls r2540 fun x2541 r2542 =>
              un_li r2542 fun x2543 r2544 =>
              un_ls r2544 fun x2545 r2546 =>
              un_li r2546 fun x2547 r2548 =>
              un_ls r2548 fun x2549 r2550 =>
              un_li r2550 fun x2551 r2552 =>
              un_ls r2552 fun x2553 r2554 =>
              un_li r2554 fun x2555 r2556 =>
              un_ls r2556 fun x2557 r2558 =>
              un_b r2558 fun x2559 r2560 =>
              un_b r2560 fun x2561 r2562 =>
              un_nil r2562 <|
              chk (decide (Int.ofNat (List.length x2555) = Int.ofNat (List.length x2555)) && true && true) <|
              out (nego_Opts x2539 x2541 x2543 x2545 x2547 x2549 x2551 x2553 x2555 x2557 x2559) fun r2563 =>
              un_li r2563 fun x2564 r2565 =>
              un_ls r2565 fun x2566 r2567 =>
              un_li r2567 fun x2568 r2569 =>
              un_ls r2569 fun x2570 r2571 =>
              un_li r2571 fun x2572 r2573 =>
              un_ls r2573 fun x2574 r2575 =>
              un_li r2575 fun x2576 r2577 =>
              un_ls r2577 fun x2578 r2579 =>
              un_li r2579 fun x2580 r2581 =>
              un_ls r2581 fun x2582 r2583 =>
              un_li r2583 fun x2584 r2585 =>
              un_ls r2585 fun x2586 r2587 =>
              un_b r2587 fun x2588 r2589 =>
              un_nil r2589 <|
              one (Int.ofNat (List.length x2584)) fun x2590 =>
              one ((↑(List.length x2512) : Int)) fun x2591 =>
              one (addI .i64 x2591 1) fun x2592 =>
              br (x2590 == x2592)
                (chk (decide ((0 : Int) ≤ (0 : Int) ∧ (0 : Int) < Int.ofNat (List.length x2584))) <|
                 chk (decide ((0 : Int) ≤ Int.ofNat (nat_lit 0) ∧ Int.ofNat (nat_lit 0) < Int.ofNat (List.length x2584))) <|
                 some [.b (eqP [Go.Value.int .i64 (List.getD x2584 (Int.toNat (offAdd Option.none 0)) 0), Go.Value.string (List.getD x2586 (Int.toNat (offAdd Option.none 0)) ByteArray.empty)] [Go.Value.int .i64 33, Go.Value.string { data := #[8] }])])
                (some [.b (false)]))
             (none))
          (fun r2593 =>
           un_li r2593 fun x2594 r2595 =>
           un_b r2595 fun x2596 r2597 =>
           un_nil r2597 <|
           some [.b (x2596)])
          top (x2476) (x2478) (x2480) (x2482) (x2484) (x2486) (x2488) (x2490) (x2492) (x2494) (x2496) (x2498) (x2500) (x2502) (x2504) (0) (x2506))
       (none))
    (fun r2598 =>
     un_li r2598 fun x2599 r2600 =>
     un_b r2600 fun x2601 r2602 =>
     un_nil r2602 <|
     some [.b (x2601)])
    top (fs) ([]) ([]) (x2452) (x2454) (x2456) (x2458) (x2460) (x2462) (x2464) (x2466) (x2468) (x2470) ([(1 : Int), (3 : Int), (6 : Int), (8 : Int)]) (x2472) (0) (times)
def NegoAsk (fs : List Int) (times : Int) : Option (List Leaf) := NegoAsk_d @NegoAsk_8_L @NegoAsk_15_L fs times
end Go.Sx.T

