import Derived.Test.YtabdgalicaifhaaGreatDoorYGotSpec
import Derived.Test.YtabdgalicaifhaaGreatDoorYFixSpec
set_option linter.all false
namespace Go.Sx.T
open Go Go.Sx
def GotVector_11_B  {α : Type} (kx : Nat → List Leaf → Option α) (kr : List Leaf → Option α) (again : List Int → List Int → List Bool → List Int → List Int → Int → Bool → Int → Bool → Int → Int → Int → Int → Option α) (steps : List Int) (was_k : List Int) (was_v : List Bool) (g_l_k : List Int) (g_l_v : List Int) (g_newest : Int) (g_any : Bool) (g_forgotten : Int) (g_forgot : Bool) (i : Int) (top2 : Int) (first : Int) (at2 : Int) : Option α :=
  one (Int.ofNat (List.length steps)) fun x2232 =>
  br (decide (i < x2232))
    (br (decide (i < 40))
       (chk (decide ((0 : Int) ≤ i ∧ i < Int.ofNat (List.length steps))) <|
        chk (decide ((0 : Int) ≤ i ∧ i < Int.ofNat (List.length steps))) <|
        one (remI .i64 (List.getD steps (Int.toNat i) 0) 8) fun x2233 =>
        one (subI .i64 x2233 2) fun x2234 =>
        one (addI .i64 at2 x2234) fun x2235 =>
        br (decide (x2235 < 0))
          (one (addI .i64 i 1) fun x2236 =>
           chk (decide (Int.ofNat (List.length steps) = Int.ofNat (List.length steps)) && true) <|
           again (steps) (was_k) (was_v) (g_l_k) (g_l_v) (g_newest) (g_any) (g_forgotten) (g_forgot) (x2236) (top2) (first) (x2235))
          (one (subI .i64 top2 x2235) fun x2237 =>
           br (decide (x2237 ≥ 250))
             (one (addI .i64 i 1) fun x2238 =>
              chk (decide (Int.ofNat (List.length steps) = Int.ofNat (List.length steps)) && true) <|
              again (steps) (was_k) (was_v) (g_l_k) (g_l_v) (g_newest) (g_any) (g_forgotten) (g_forgot) (x2238) (top2) (first) (x2235))
             (out (ref_Step first x2235) fun r2239 =>
              un_i r2239 fun x2240 r2241 =>
              un_nil r2241 <|
              out (got_Put g_l_k g_l_v g_newest g_any g_forgotten g_forgot x2240 false) fun r2242 =>
              un_li r2242 fun x2243 r2244 =>
              un_li r2244 fun x2245 r2246 =>
              un_i r2246 fun x2247 r2248 =>
              un_b r2248 fun x2249 r2250 =>
              un_i r2250 fun x2251 r2252 =>
              un_b r2252 fun x2253 r2254 =>
              un_b r2254 fun x2255 r2256 =>
              un_nil r2256 <|
              br (x2255 == mget false was_k was_v x2235)
                (kr [.li (steps), .b (false)])
                (one (maxI top2 x2235) fun x2257 =>
                 one (addI .i64 i 1) fun x2258 =>
                 chk (decide (Int.ofNat (List.length steps) = Int.ofNat (List.length steps)) && true) <|
                 again (steps) (mputK was_k x2235) (mputV was_k was_v x2235 true) (x2243) (x2245) (x2247) (x2249) (x2251) (x2253) (x2258) (x2257) (first) (x2235)))))
       (kx 0 [.li (steps), .li (was_k), .lb (was_v), .li (g_l_k), .li (g_l_v), .i (g_newest), .b (g_any), .i (g_forgotten), .b (g_forgot), .i (top2)]))
    (kx 0 [.li (steps), .li (was_k), .lb (was_v), .li (g_l_k), .li (g_l_v), .i (g_newest), .b (g_any), .i (g_forgotten), .b (g_forgot), .i (top2)])
def GotVector_11_L {α : Type} (kx : Nat → List Leaf → Option α) (kr : List Leaf → Option α) : Nat → List Int → List Int → List Bool → List Int → List Int → Int → Bool → Int → Bool → Int → Int → Int → Int → Option α
  | 0, _, _, _, _, _, _, _, _, _, _, _, _, _ => none
  | n + 1, steps, was_k, was_v, g_l_k, g_l_v, g_newest, g_any, g_forgotten, g_forgot, i, top2, first, at2 => GotVector_11_B  kx kr (GotVector_11_L kx kr n) steps was_k was_v g_l_k g_l_v g_newest g_any g_forgotten g_forgot i top2 first at2
def GotVector_11_F (L11 : ({β : Type} → (Nat → List Leaf → Option β) → (List Leaf → Option β) → Nat → List Int → List Int → List Bool → List Int → List Int → Int → Bool → Int → Bool → Int → Int → Int → Int → Option β)) {α : Type} (n : Nat) (ls : List Leaf) (kx : Nat → List Leaf → Option α) (kr : List Leaf → Option α) : Option α := un_li ls fun steps rr => un_li rr fun was_k rr => un_lb rr fun was_v rr => un_li rr fun g_l_k rr => un_li rr fun g_l_v rr => un_i rr fun g_newest rr => un_b rr fun g_any rr => un_i rr fun g_forgotten rr => un_b rr fun g_forgot rr => un_i rr fun i rr => un_i rr fun top2 rr => un_i rr fun first rr => un_i rr fun at2 rr => un_nil rr (L11 kx kr n steps was_k was_v g_l_k g_l_v g_newest g_any g_forgotten g_forgot i top2 first at2)
def GotVector_23_B  {α : Type} (kx : Nat → List Leaf → Option α) (kr : List Leaf → Option α) (again : List Int → List Int → List Bool → List Int → Int → Int → Int → Option α) (steps : List Int) (was_k : List Int) (was_v : List Bool) (l : List Int) (t73 : Int) (top2 : Int) (t72 : Int) : Option α :=
  br (decide (t73 < t72))
    (chk (decide ((0 : Int) ≤ t73 ∧ t73 < Int.ofNat (List.length l))) <|
     chk (decide ((0 : Int) ≤ t73 ∧ t73 < Int.ofNat (List.length l))) <|
     one (subI .i64 top2 t73) fun x2339 =>
     br (!(List.getD l (Int.toNat t73) 0 == 0) == mget false was_k was_v x2339)
       (kr [.li (steps), .b (false)])
       (one (addI .i64 t73 1) fun x2340 =>
        chk (decide (Int.ofNat (List.length l) = Int.ofNat (List.length l)) && true) <|
        again (steps) (was_k) (was_v) (l) (x2340) (top2) (t72)))
    (kx 2 [.li (steps)])
def GotVector_23_L {α : Type} (kx : Nat → List Leaf → Option α) (kr : List Leaf → Option α) : Nat → List Int → List Int → List Bool → List Int → Int → Int → Int → Option α
  | 0, _, _, _, _, _, _, _ => none
  | n + 1, steps, was_k, was_v, l, t73, top2, t72 => GotVector_23_B  kx kr (GotVector_23_L kx kr n) steps was_k was_v l t73 top2 t72
def GotVector_23_F (L23 : ({β : Type} → (Nat → List Leaf → Option β) → (List Leaf → Option β) → Nat → List Int → List Int → List Bool → List Int → Int → Int → Int → Option β)) {α : Type} (n : Nat) (ls : List Leaf) (kx : Nat → List Leaf → Option α) (kr : List Leaf → Option α) : Option α := un_li ls fun steps rr => un_li rr fun was_k rr => un_lb rr fun was_v rr => un_li rr fun l rr => un_i rr fun t73 rr => un_i rr fun top2 rr => un_i rr fun t72 rr => un_nil rr (L23 kx kr n steps was_k was_v l t73 top2 t72)
def GotVector_d (L11 : ({β : Type} → (Nat → List Leaf → Option β) → (List Leaf → Option β) → Nat → List Int → List Int → List Bool → List Int → List Int → Int → Bool → Int → Bool → Int → Int → Int → Int → Option β)) (L23 : ({β : Type} → (Nat → List Leaf → Option β) → (List Leaf → Option β) → Nat → List Int → List Int → List Bool → List Int → Int → Int → Int → Option β)) (steps : List Int) (first : Int) : Option (List Leaf) :=
  out (got_New) fun r2341 =>
  un_li r2341 fun x2342 r2343 =>
  un_li r2343 fun x2344 r2345 =>
  un_i r2345 fun x2346 r2347 =>
  un_b r2347 fun x2348 r2349 =>
  un_i r2349 fun x2350 r2351 =>
  un_b r2351 fun x2352 r2353 =>
  un_nil r2353 <|
  out (got_Put x2342 x2344 x2346 x2348 x2350 x2352 first false) fun r2354 =>
  un_li r2354 fun x2355 r2356 =>
  un_li r2356 fun x2357 r2358 =>
  un_i r2358 fun x2359 r2360 =>
  un_b r2360 fun x2361 r2362 =>
  un_i r2362 fun x2363 r2364 =>
  un_b r2364 fun x2365 r2366 =>
  un_b r2366 fun x2367 r2368 =>
  un_nil r2368 <|
  br (!x2367)
    (some [.b (false)])
    (chk (decide (Int.ofNat (List.length steps) = Int.ofNat (List.length steps)) && true) <|
     L11
       (fun i2369 r2370 =>
        br (Nat.beq 0 i2369)
          (un_li r2370 fun x2371 r2372 =>
           un_li r2372 fun x2373 r2374 =>
           un_lb r2374 fun x2375 r2376 =>
           un_li r2376 fun x2377 r2378 =>
           un_li r2378 fun x2379 r2380 =>
           un_i r2380 fun x2381 r2382 =>
           un_b r2382 fun x2383 r2384 =>
           un_i r2384 fun x2385 r2386 =>
           un_b r2386 fun x2387 r2388 =>
           un_i r2388 fun x2389 r2390 =>
           un_nil r2390 <|
           out (got_Cells x2377 x2379 x2381 x2383 x2385 x2387) fun r2391 =>
           un_li r2391 fun x2392 r2393 =>
           un_li r2393 fun x2394 r2395 =>
           un_li r2395 fun x2396 r2397 =>
           un_li r2397 fun x2398 r2399 =>
           un_i r2399 fun x2400 r2401 =>
           un_b r2401 fun x2402 r2403 =>
           un_i r2403 fun x2404 r2405 =>
           un_b r2405 fun x2406 r2407 =>
           un_nil r2407 <|
           chk (decide (Int.ofNat (List.length x2396) = Int.ofNat (List.length x2396)) && true) <|
           out (vec_Spread x2396 x2398) fun r2408 =>
           un_li r2408 fun x2409 r2410 =>
           un_nil r2410 <|
           one (Int.ofNat (List.length x2409)) fun x2411 =>
           one (addI .i64 x2389 1) fun x2412 =>
           br (x2411 != x2412)
             (some [.b (false)])
             (one (Int.ofNat (List.length x2409)) fun x2413 =>
              chk (decide (Int.ofNat (List.length x2409) = Int.ofNat (List.length x2409)) && true) <|
              L23
                (fun i2414 r2415 =>
                 br (Nat.beq 2 i2414)
                   (un_li r2415 fun x2416 r2417 =>
                    un_nil r2417 <|
                    some [.b (true)])
                   (none))
                (fun r2418 =>
                 un_li r2418 fun x2419 r2420 =>
                 un_b r2420 fun x2421 r2422 =>
                 un_nil r2422 <|
                 some [.b (x2421)])
                top (x2371) (x2373) (x2375) (x2409) (0) (x2389) (x2413)))
          (none))
       (fun r2423 =>
        un_li r2423 fun x2424 r2425 =>
        un_b r2425 fun x2426 r2427 =>
        un_nil r2427 <|
        some [.b (x2426)])
       top (steps) (mputK [] 0) (mputV [] [] 0 true) (x2355) (x2357) (x2359) (x2361) (x2363) (x2365) (0) (0) (first) (0))
def GotVector (steps : List Int) (first : Int) : Option (List Leaf) := GotVector_d @GotVector_11_L @GotVector_23_L steps first
end Go.Sx.T

