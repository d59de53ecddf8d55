import Derived.Test.YtllgbgponmkijaaGreatDoorYValSpec
import Derived.Test.YtllgbgponmkijaaGreatDoorYR18Spec
set_option linter.all false
namespace Go.Sx.T
open Go Go.Sx
def ValidWindow_10_B  {α : Type} (kx : Nat → List Leaf → Option α) (kr : List Leaf → Option α) (again : List Int → Int → Int → Int → Int → Int → Int → Int → Int → Int → Int → Int → Int → Int → Option α) (t64 : List Int) (v_State : Int) (v_Gss : Int) (v_Gsr : Int) (v_Gar : Int) (v_Iss : Int) (v_Isr : Int) (v_Mine : Int) (v_Theirs : Int) (t66 : Int) (high : Int) (low : Int) (n2 : Int) (t65 : Int) : Option α :=
  br (decide (t66 < t65))
    (chk (decide ((0 : Int) ≤ t66 ∧ t66 < Int.ofNat (List.length t64))) <|
     chk (decide ((0 : Int) ≤ t66 ∧ t66 < Int.ofNat (List.length t64))) <|
     out (ref_Step v_Gsr (List.getD t64 (Int.toNat t66) 0)) fun r2283 =>
     un_i r2283 fun x2284 r2285 =>
     un_nil r2285 <|
     out (valid_Check v_State v_Gss v_Gsr v_Gar v_Iss v_Isr v_Mine v_Theirs 0 0 0 0 0 0 2 true x2284 0 0 0 0 0 0 ByteArray.empty) fun r2286 =>
     un_i r2286 fun x2287 r2288 =>
     un_nil r2288 <|
     br (List.getD t64 (Int.toNat t66) 0 == low)
       (br (!(x2287 == 1) == true)
          (kr [.b (false)])
          (one (addI .i64 t66 1) fun x2289 =>
           chk (decide (Int.ofNat (List.length t64) = Int.ofNat (List.length t64)) && true) <|
           again (t64) (v_State) (v_Gss) (v_Gsr) (v_Gar) (v_Iss) (v_Isr) (v_Mine) (v_Theirs) (x2289) (high) (low) (n2) (t65)))
       (br (!(x2287 == 1) == (List.getD t64 (Int.toNat t66) 0 == high))
          (kr [.b (false)])
          (one (addI .i64 t66 1) fun x2290 =>
           chk (decide (Int.ofNat (List.length t64) = Int.ofNat (List.length t64)) && true) <|
           again (t64) (v_State) (v_Gss) (v_Gsr) (v_Gar) (v_Iss) (v_Isr) (v_Mine) (v_Theirs) (x2290) (high) (low) (n2) (t65))))
    (kx 0 [.i (v_State), .i (v_Gss), .i (v_Gsr), .i (v_Gar), .i (v_Iss), .i (v_Isr), .i (v_Mine), .i (v_Theirs), .i (n2)])
def ValidWindow_10_L {α : Type} (kx : Nat → List Leaf → Option α) (kr : List Leaf → Option α) : Nat → List Int → Int → Int → Int → Int → Int → Int → Int → Int → Int → Int → Int → Int → Int → Option α
  | 0, _, _, _, _, _, _, _, _, _, _, _, _, _, _ => none
  | n + 1, t64, v_State, v_Gss, v_Gsr, v_Gar, v_Iss, v_Isr, v_Mine, v_Theirs, t66, high, low, n2, t65 => ValidWindow_10_B  kx kr (ValidWindow_10_L kx kr n) t64 v_State v_Gss v_Gsr v_Gar v_Iss v_Isr v_Mine v_Theirs t66 high low n2 t65
def ValidWindow_10_F (L10 : ({β : Type} → (Nat → List Leaf → Option β) → (List Leaf → Option β) → Nat → List Int → Int → Int → Int → Int → Int → Int → Int → Int → Int → Int → Int → Int → Int → Option β)) {α : Type} (n : Nat) (ls : List Leaf) (kx : Nat → List Leaf → Option α) (kr : List Leaf → Option α) : Option α := un_li ls fun t64 rr => un_i rr fun v_State rr => un_i rr fun v_Gss rr => un_i rr fun v_Gsr rr => un_i rr fun v_Gar rr => un_i rr fun v_Iss rr => un_i rr fun v_Isr rr => un_i rr fun v_Mine rr => un_i rr fun v_Theirs rr => un_i rr fun t66 rr => un_i rr fun high rr => un_i rr fun low rr => un_i rr fun n2 rr => un_i rr fun t65 rr => un_nil rr (L10 kx kr n t64 v_State v_Gss v_Gsr v_Gar v_Iss v_Isr v_Mine v_Theirs t66 high low n2 t65)
def ValidWindow_17_B  {α : Type} (kx : Nat → List Leaf → Option α) (kr : List Leaf → Option α) (again : List Int → Int → Int → Int → Int → Int → Int → Int → Int → Int → Int → Int → Option α) (t94 : List Int) (v_State : Int) (v_Gss : Int) (v_Gsr : Int) (v_Gar : Int) (v_Iss : Int) (v_Isr : Int) (v_Mine : Int) (v_Theirs : Int) (t96 : Int) (n2 : Int) (t95 : Int) : Option α :=
  br (decide (t96 < t95))
    (chk (decide ((0 : Int) ≤ t96 ∧ t96 < Int.ofNat (List.length t94))) <|
     chk (decide ((0 : Int) ≤ t96 ∧ t96 < Int.ofNat (List.length t94))) <|
     out (ref_Step v_Gss (List.getD t94 (Int.toNat t96) 0)) fun r2353 =>
     un_i r2353 fun x2354 r2355 =>
     un_nil r2355 <|
     out (valid_Check v_State v_Gss v_Gsr v_Gar v_Iss v_Isr v_Mine v_Theirs 0 0 0 0 0 0 3 true v_Gsr x2354 0 0 0 0 0 ByteArray.empty) fun r2356 =>
     un_i r2356 fun x2357 r2358 =>
     un_nil r2358 <|
     br (List.getD t94 (Int.toNat t96) 0 == 0)
       (br (!(x2357 == 1) == true)
          (kr [.b (false)])
          (one (addI .i64 t96 1) fun x2359 =>
           chk (decide (Int.ofNat (List.length t94) = Int.ofNat (List.length t94)) && true) <|
           again (t94) (v_State) (v_Gss) (v_Gsr) (v_Gar) (v_Iss) (v_Isr) (v_Mine) (v_Theirs) (x2359) (n2) (t95)))
       (one (subI .i64 1 n2) fun x2360 =>
        br (!(x2357 == 1) == (List.getD t94 (Int.toNat t96) 0 == x2360))
          (kr [.b (false)])
          (one (addI .i64 t96 1) fun x2361 =>
           chk (decide (Int.ofNat (List.length t94) = Int.ofNat (List.length t94)) && true) <|
           again (t94) (v_State) (v_Gss) (v_Gsr) (v_Gar) (v_Iss) (v_Isr) (v_Mine) (v_Theirs) (x2361) (n2) (t95))))
    (kx 2 [.i (v_State), .i (v_Gss), .i (v_Gsr), .i (v_Gar), .i (v_Iss), .i (v_Isr), .i (v_Mine), .i (v_Theirs)])
def ValidWindow_17_L {α : Type} (kx : Nat → List Leaf → Option α) (kr : List Leaf → Option α) : Nat → List Int → Int → Int → Int → Int → Int → Int → Int → Int → Int → Int → Int → Option α
  | 0, _, _, _, _, _, _, _, _, _, _, _, _ => none
  | n + 1, t94, v_State, v_Gss, v_Gsr, v_Gar, v_Iss, v_Isr, v_Mine, v_Theirs, t96, n2, t95 => ValidWindow_17_B  kx kr (ValidWindow_17_L kx kr n) t94 v_State v_Gss v_Gsr v_Gar v_Iss v_Isr v_Mine v_Theirs t96 n2 t95
def ValidWindow_17_F (L17 : ({β : Type} → (Nat → List Leaf → Option β) → (List Leaf → Option β) → Nat → List Int → Int → Int → Int → Int → Int → Int → Int → Int → Int → Int → Int → Option β)) {α : Type} (n : Nat) (ls : List Leaf) (kx : Nat → List Leaf → Option α) (kr : List Leaf → Option α) : Option α := un_li ls fun t94 rr => un_i rr fun v_State rr => un_i rr fun v_Gss rr => un_i rr fun v_Gsr rr => un_i rr fun v_Gar rr => un_i rr fun v_Iss rr => un_i rr fun v_Isr rr => un_i rr fun v_Mine rr => un_i rr fun v_Theirs rr => un_i rr fun t96 rr => un_i rr fun n2 rr => un_i rr fun t95 rr => un_nil rr (L17 kx kr n t94 v_State v_Gss v_Gsr v_Gar v_Iss v_Isr v_Mine v_Theirs t96 n2 t95)
def ValidWindow_d (L10 : ({β : Type} → (Nat → List Leaf → Option β) → (List Leaf → Option β) → Nat → List Int → Int → Int → Int → Int → Int → Int → Int → Int → Int → Int → Int → Int → Int → Option β)) (L17 : ({β : Type} → (Nat → List Leaf → Option β) → (List Leaf → Option β) → Nat → List Int → Int → Int → Int → Int → Int → Int → Int → Int → Int → Int → Int → Option β)) (v_State : Int) (v_Gss : Int) (v_Gsr : Int) (v_Gar : Int) (v_Iss : Int) (v_Isr : Int) (v_Mine : Int) (v_Theirs : Int) (w : Int) : Option (List Leaf) :=
  one (remI .i64 w 969) fun x2362 =>
  one (addI .i64 x2362 969) fun x2363 =>
  one (remI .i64 x2363 969) fun x2364 =>
  one (addI .i64 32 x2364) fun x2365 =>
  one (remI .i64 w 969) fun x2366 =>
  one (addI .i64 x2366 969) fun x2367 =>
  one (remI .i64 x2367 969) fun x2368 =>
  one (addI .i64 32 x2368) fun x2369 =>
  out (ref_Seq v_Gsr) fun r2370 =>
  un_i r2370 fun x2371 r2372 =>
  un_nil r2372 <|
  out (ref_Seq v_Gss) fun r2373 =>
  un_i r2373 fun x2374 r2375 =>
  un_nil r2375 <|
  out (ref_Step x2371 (-5000)) fun r2376 =>
  un_i r2376 fun x2377 r2378 =>
  un_nil r2378 <|
  out (ref_Step x2374 (-5000)) fun r2379 =>
  un_i r2379 fun x2380 r2381 =>
  un_nil r2381 <|
  one (quoI .i64 x2365 4) fun x2382 =>
  one (subI .i64 1 x2382) fun x2383 =>
  one (mulI .i64 3 x2365) fun x2384 =>
  one (quoI .i64 x2384 4) fun x2385 =>
  one (subI .i64 x2383 1) fun x2386 =>
  one (addI .i64 x2385 1) fun x2387 =>
  one ((↑4 : Int)) fun x2388 =>
  chk (decide ((↑(4 : Nat) : Int) = Int.ofNat (List.length [x2386, x2383, x2385, x2387])) && true) <|
  L10
    (fun i2389 r2390 =>
     br (Nat.beq 0 i2389)
       (un_i r2390 fun x2391 r2392 =>
        un_i r2392 fun x2393 r2394 =>
        un_i r2394 fun x2395 r2396 =>
        un_i r2396 fun x2397 r2398 =>
        un_i r2398 fun x2399 r2400 =>
        un_i r2400 fun x2401 r2402 =>
        un_i r2402 fun x2403 r2404 =>
        un_i r2404 fun x2405 r2406 =>
        un_i r2406 fun x2407 r2408 =>
        un_nil r2408 <|
        one (subI .i64 0 x2407) fun x2409 =>
        one (subI .i64 1 x2407) fun x2410 =>
        one ((↑4 : Int)) fun x2411 =>
        chk (decide ((↑(4 : Nat) : Int) = Int.ofNat (List.length [x2409, x2410, (0 : Int), (1 : Int)])) && true) <|
        L17
          (fun i2412 r2413 =>
           br (Nat.beq 2 i2412)
             (un_i r2413 fun x2414 r2415 =>
              un_i r2415 fun x2416 r2417 =>
              un_i r2417 fun x2418 r2419 =>
              un_i r2419 fun x2420 r2421 =>
              un_i r2421 fun x2422 r2423 =>
              un_i r2423 fun x2424 r2425 =>
              un_i r2425 fun x2426 r2427 =>
              un_i r2427 fun x2428 r2429 =>
              un_nil r2429 <|
              out (r18_Check x2414 x2416 x2418 x2420 x2422 x2424 x2426 x2428 0 0 0 0 0 0 2 false x2418 0 0 0 0 0 0 ByteArray.empty) fun r2430 =>
              un_i r2430 fun x2431 r2432 =>
              un_nil r2432 <|
              some [.b (x2431 == 1)])
             (none))
          (fun r2433 =>
           un_b r2433 fun x2434 r2435 =>
           un_nil r2435 <|
           some [.b (x2434)])
          top ([x2409, x2410, (0 : Int), (1 : Int)]) (x2391) (x2393) (x2395) (x2397) (x2399) (x2401) (x2403) (x2405) (0) (x2407) (x2411))
       (none))
    (fun r2436 =>
     un_b r2436 fun x2437 r2438 =>
     un_nil r2438 <|
     some [.b (x2437)])
    top ([x2386, x2383, x2385, x2387]) (5) (x2374) (x2371) (x2374) (x2380) (x2377) (x2369) (x2365) (0) (x2385) (x2383) (x2365) (x2388)
def ValidWindow (v_State : Int) (v_Gss : Int) (v_Gsr : Int) (v_Gar : Int) (v_Iss : Int) (v_Isr : Int) (v_Mine : Int) (v_Theirs : Int) (w : Int) : Option (List Leaf) := ValidWindow_d @ValidWindow_10_L @ValidWindow_17_L v_State v_Gss v_Gsr v_Gar v_Iss v_Isr v_Mine v_Theirs w
end Go.Sx.T

