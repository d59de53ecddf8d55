import Derived.Test.YtopcljhdejindaaGreatDoorYRttSpec
set_option linter.all false
namespace Go.Sx.T
open Go Go.Sx
def win_New  : Option (List Leaf) :=
  out (rtt_New) fun r2333 =>
  un_b r2333 fun x2334 r2335 =>
  un_i r2335 fun x2336 r2337 =>
  un_i r2337 fun x2338 r2339 =>
  un_i r2339 fun x2340 r2341 =>
  un_nil r2341 <|
  some [.i (3), .i (1000000), .i (0), .i (0), .i (0), .b (false), .i (0), .b (false), .b (false), .i (0), .b (x2334), .i (x2336), .i (x2338), .i (x2340)]
def win_May (w_cwnd : Int) (w_slow : Int) (w_pipe : Int) (w_count : Int) (w_halved_n : Int) (w_halved_is : Bool) (w_last_n : Int) (w_last_is : Bool) (w_runs : Bool) (w_due : Int) (w_rtt_any : Bool) (w_rtt_smooth : Int) (w_rtt_spread : Int) (w_rtt_rto : Int) : Option (List Leaf) :=
  some [.b (decide (w_pipe < w_cwnd))]
def win_runsTo (w_cwnd : Int) (w_slow : Int) (w_pipe : Int) (w_count : Int) (w_halved_n : Int) (w_halved_is : Bool) (w_last_n : Int) (w_last_is : Bool) (w_runs : Bool) (w_due : Int) (w_rtt_any : Bool) (w_rtt_smooth : Int) (w_rtt_spread : Int) (w_rtt_rto : Int) (now : Int) : Option (List Leaf) :=
  one (minI now 4611686018427387904) fun x2342 =>
  out (rtt_Rto w_rtt_any w_rtt_smooth w_rtt_spread w_rtt_rto) fun r2343 =>
  un_i r2343 fun x2344 r2345 =>
  un_nil r2345 <|
  one (addI .i64 x2342 x2344) fun x2346 =>
  some [.i (w_cwnd), .i (w_slow), .i (w_pipe), .i (w_count), .i (w_halved_n), .b (w_halved_is), .i (w_last_n), .b (w_last_is), .b (true), .i (x2346), .b (w_rtt_any), .i (w_rtt_smooth), .i (w_rtt_spread), .i (w_rtt_rto)]
def win_Sent (w_cwnd : Int) (w_slow : Int) (w_pipe : Int) (w_count : Int) (w_halved_n : Int) (w_halved_is : Bool) (w_last_n : Int) (w_last_is : Bool) (w_runs : Bool) (w_due : Int) (w_rtt_any : Bool) (w_rtt_smooth : Int) (w_rtt_spread : Int) (w_rtt_rto : Int) (n2 : Int) (now : Int) : Option (List Leaf) :=
  out (win_May w_cwnd w_slow w_pipe w_count w_halved_n w_halved_is w_last_n w_last_is w_runs w_due w_rtt_any w_rtt_smooth w_rtt_spread w_rtt_rto) fun r2347 =>
  un_b r2347 fun x2348 r2349 =>
  un_nil r2349 <|
  br (!x2348)
    (some [.i (w_cwnd), .i (w_slow), .i (w_pipe), .i (w_count), .i (w_halved_n), .b (w_halved_is), .i (w_last_n), .b (w_last_is), .b (w_runs), .i (w_due), .b (w_rtt_any), .i (w_rtt_smooth), .i (w_rtt_spread), .i (w_rtt_rto), .b (false)])
    (one (addI .i64 w_pipe 1) fun x2350 =>
     out (seq_Of n2) fun r2351 =>
     un_i r2351 fun x2352 r2353 =>
     un_nil r2353 <|
     br (!w_runs)
       (out (win_runsTo w_cwnd w_slow x2350 w_count w_halved_n w_halved_is x2352 true w_runs w_due w_rtt_any w_rtt_smooth w_rtt_spread w_rtt_rto now) fun r2354 =>
        un_i r2354 fun x2355 r2356 =>
        un_i r2356 fun x2357 r2358 =>
        un_i r2358 fun x2359 r2360 =>
        un_i r2360 fun x2361 r2362 =>
        un_i r2362 fun x2363 r2364 =>
        un_b r2364 fun x2365 r2366 =>
        un_i r2366 fun x2367 r2368 =>
        un_b r2368 fun x2369 r2370 =>
        un_b r2370 fun x2371 r2372 =>
        un_i r2372 fun x2373 r2374 =>
        un_b r2374 fun x2375 r2376 =>
        un_i r2376 fun x2377 r2378 =>
        un_i r2378 fun x2379 r2380 =>
        un_i r2380 fun x2381 r2382 =>
        un_nil r2382 <|
        some [.i (x2355), .i (x2357), .i (x2359), .i (x2361), .i (x2363), .b (x2365), .i (x2367), .b (x2369), .b (x2371), .i (x2373), .b (x2375), .i (x2377), .i (x2379), .i (x2381), .b (true)])
       (some [.i (w_cwnd), .i (w_slow), .i (x2350), .i (w_count), .i (w_halved_n), .b (w_halved_is), .i (x2352), .b (true), .b (w_runs), .i (w_due), .b (w_rtt_any), .i (w_rtt_smooth), .i (w_rtt_spread), .i (w_rtt_rto), .b (true)]))
def win_grow_5_B  {α : Type} (kx : Nat → List Leaf → Option α) (kr : List Leaf → Option α) (again : Int → Int → Int → Int → Int → Bool → Int → Bool → Bool → Int → Bool → Int → Int → Int → Option α) (w_cwnd : Int) (w_slow : Int) (w_pipe : Int) (w_count : Int) (w_halved_n : Int) (w_halved_is : Bool) (w_last_n : Int) (w_last_is : Bool) (w_runs : Bool) (w_due : Int) (w_rtt_any : Bool) (w_rtt_smooth : Int) (w_rtt_spread : Int) (w_rtt_rto : Int) : Option α :=
  br (decide (w_count ≥ w_cwnd))
    (one (subI .i64 w_count w_cwnd) fun x2391 =>
     one (addI .i64 w_cwnd 1) fun x2392 =>
     again (x2392) (w_slow) (w_pipe) (x2391) (w_halved_n) (w_halved_is) (w_last_n) (w_last_is) (w_runs) (w_due) (w_rtt_any) (w_rtt_smooth) (w_rtt_spread) (w_rtt_rto))
    (kx 0 [.i (w_cwnd), .i (w_slow), .i (w_pipe), .i (w_count), .i (w_halved_n), .b (w_halved_is), .i (w_last_n), .b (w_last_is), .b (w_runs), .i (w_due), .b (w_rtt_any), .i (w_rtt_smooth), .i (w_rtt_spread), .i (w_rtt_rto)])
def win_grow_5_L {α : Type} (kx : Nat → List Leaf → Option α) (kr : List Leaf → Option α) : Nat → Int → Int → Int → Int → Int → Bool → Int → Bool → Bool → Int → Bool → Int → Int → Int → Option α
  | 0, _, _, _, _, _, _, _, _, _, _, _, _, _, _ => none
  | n + 1, w_cwnd, w_slow, w_pipe, w_count, w_halved_n, w_halved_is, w_last_n, w_last_is, w_runs, w_due, w_rtt_any, w_rtt_smooth, w_rtt_spread, w_rtt_rto => win_grow_5_B  kx kr (win_grow_5_L kx kr n) w_cwnd w_slow w_pipe w_count w_halved_n w_halved_is w_last_n w_last_is w_runs w_due w_rtt_any w_rtt_smooth w_rtt_spread w_rtt_rto
def win_grow_5_F (L5 : ({β : Type} → (Nat → List Leaf → Option β) → (List Leaf → Option β) → Nat → Int → Int → Int → Int → Int → Bool → Int → Bool → Bool → Int → Bool → Int → Int → Int → Option β)) {α : Type} (n : Nat) (ls : List Leaf) (kx : Nat → List Leaf → Option α) (kr : List Leaf → Option α) : Option α := un_i ls fun w_cwnd rr => un_i rr fun w_slow rr => un_i rr fun w_pipe rr => un_i rr fun w_count rr => un_i rr fun w_halved_n rr => un_b rr fun w_halved_is rr => un_i rr fun w_last_n rr => un_b rr fun w_last_is rr => un_b rr fun w_runs rr => un_i rr fun w_due rr => un_b rr fun w_rtt_any rr => un_i rr fun w_rtt_smooth rr => un_i rr fun w_rtt_spread rr => un_i rr fun w_rtt_rto rr => un_nil rr (L5 kx kr n w_cwnd w_slow w_pipe w_count w_halved_n w_halved_is w_last_n w_last_is w_runs w_due w_rtt_any w_rtt_smooth w_rtt_spread w_rtt_rto)
def win_grow_d (L5 : ({β : Type} → (Nat → List Leaf → Option β) → (List Leaf → Option β) → Nat → Int → Int → Int → Int → Int → Bool → Int → Bool → Bool → Int → Bool → Int → Int → Int → Option β)) (w_cwnd : Int) (w_slow : Int) (w_pipe : Int) (w_count : Int) (w_halved_n : Int) (w_halved_is : Bool) (w_last_n : Int) (w_last_is : Bool) (w_runs : Bool) (w_due : Int) (w_rtt_any : Bool) (w_rtt_smooth : Int) (w_rtt_spread : Int) (w_rtt_rto : Int) (n2 : Int) : Option (List Leaf) :=
  br (decide (w_cwnd < w_slow))
    (one (subI .i64 w_slow w_cwnd) fun x2393 =>
     one (minI n2 x2393) fun x2394 =>
     one (addI .i64 w_cwnd x2394) fun x2395 =>
     one (subI .i64 n2 x2394) fun x2396 =>
     one (addI .i64 w_count x2396) fun x2397 =>
     L5
       (fun i2398 r2399 =>
        br (Nat.beq 0 i2398)
          (un_i r2399 fun x2400 r2401 =>
           un_i r2401 fun x2402 r2403 =>
           un_i r2403 fun x2404 r2405 =>
           un_i r2405 fun x2406 r2407 =>
           un_i r2407 fun x2408 r2409 =>
           un_b r2409 fun x2410 r2411 =>
           un_i r2411 fun x2412 r2413 =>
           un_b r2413 fun x2414 r2415 =>
           un_b r2415 fun x2416 r2417 =>
           un_i r2417 fun x2418 r2419 =>
           un_b r2419 fun x2420 r2421 =>
           un_i r2421 fun x2422 r2423 =>
           un_i r2423 fun x2424 r2425 =>
           un_i r2425 fun x2426 r2427 =>
           un_nil r2427 <|
           some [.i (x2400), .i (x2402), .i (x2404), .i (x2406), .i (x2408), .b (x2410), .i (x2412), .b (x2414), .b (x2416), .i (x2418), .b (x2420), .i (x2422), .i (x2424), .i (x2426)])
          (none))
       (fun r2428 =>
        un_nil r2428 <|
        none)
       top (x2395) (w_slow) (w_pipe) (x2397) (w_halved_n) (w_halved_is) (w_last_n) (w_last_is) (w_runs) (w_due) (w_rtt_any) (w_rtt_smooth) (w_rtt_spread) (w_rtt_rto))
    (one (addI .i64 w_count n2) fun x2429 =>
     L5
       (fun i2430 r2431 =>
        br (Nat.beq 0 i2430)
          (un_i r2431 fun x2432 r2433 =>
           un_i r2433 fun x2434 r2435 =>
           un_i r2435 fun x2436 r2437 =>
           un_i r2437 fun x2438 r2439 =>
           un_i r2439 fun x2440 r2441 =>
           un_b r2441 fun x2442 r2443 =>
           un_i r2443 fun x2444 r2445 =>
           un_b r2445 fun x2446 r2447 =>
           un_b r2447 fun x2448 r2449 =>
           un_i r2449 fun x2450 r2451 =>
           un_b r2451 fun x2452 r2453 =>
           un_i r2453 fun x2454 r2455 =>
           un_i r2455 fun x2456 r2457 =>
           un_i r2457 fun x2458 r2459 =>
           un_nil r2459 <|
           some [.i (x2432), .i (x2434), .i (x2436), .i (x2438), .i (x2440), .b (x2442), .i (x2444), .b (x2446), .b (x2448), .i (x2450), .b (x2452), .i (x2454), .i (x2456), .i (x2458)])
          (none))
       (fun r2460 =>
        un_nil r2460 <|
        none)
       top (w_cwnd) (w_slow) (w_pipe) (x2429) (w_halved_n) (w_halved_is) (w_last_n) (w_last_is) (w_runs) (w_due) (w_rtt_any) (w_rtt_smooth) (w_rtt_spread) (w_rtt_rto))
def win_grow (w_cwnd : Int) (w_slow : Int) (w_pipe : Int) (w_count : Int) (w_halved_n : Int) (w_halved_is : Bool) (w_last_n : Int) (w_last_is : Bool) (w_runs : Bool) (w_due : Int) (w_rtt_any : Bool) (w_rtt_smooth : Int) (w_rtt_spread : Int) (w_rtt_rto : Int) (n2 : Int) : Option (List Leaf) := win_grow_d @win_grow_5_L w_cwnd w_slow w_pipe w_count w_halved_n w_halved_is w_last_n w_last_is w_runs w_due w_rtt_any w_rtt_smooth w_rtt_spread w_rtt_rto n2
def win_halve (w_cwnd : Int) (w_slow : Int) (w_pipe : Int) (w_count : Int) (w_halved_n : Int) (w_halved_is : Bool) (w_last_n : Int) (w_last_is : Bool) (w_runs : Bool) (w_due : Int) (w_rtt_any : Bool) (w_rtt_smooth : Int) (w_rtt_spread : Int) (w_rtt_rto : Int) : Option (List Leaf) :=
  one (quoI .i64 w_cwnd 2) fun x2461 =>
  one (maxI x2461 1) fun x2462 =>
  br (w_last_is)
    (some [.i (x2462), .i (x2462), .i (w_pipe), .i (0), .i (w_last_n), .b (w_last_is), .i (w_last_n), .b (w_last_is), .b (w_runs), .i (w_due), .b (w_rtt_any), .i (w_rtt_smooth), .i (w_rtt_spread), .i (w_rtt_rto)])
    (some [.i (x2462), .i (x2462), .i (w_pipe), .i (0), .i (w_halved_n), .b (w_halved_is), .i (w_last_n), .b (w_last_is), .b (w_runs), .i (w_due), .b (w_rtt_any), .i (w_rtt_smooth), .i (w_rtt_spread), .i (w_rtt_rto)])
def win_where (h_Got : List Int) (h_Late : List Int) (h_Lost : List Int) (h_Marks : Int) (h_Rtt : Int) : Option (List Leaf) :=
  one (Int.ofNat (List.length h_Lost)) fun x2465 =>
  br (decide (x2465 > 0))
    (one (subI .i64 x2465 1) fun x2466 =>
     chk (decide (0 ≤ x2466 ∧ x2466 < Int.ofNat (List.length h_Lost))) <|
     chk (decide (0 ≤ x2466 ∧ x2466 < Int.ofNat (List.length h_Lost))) <|
     some [.i (List.getD h_Lost (Int.toNat x2466) 0), .b (true)])
    (one (Int.ofNat (List.length h_Got)) fun x2467 =>
     br (decide (x2467 > 0))
       (one (subI .i64 x2467 1) fun x2468 =>
        chk (decide (0 ≤ x2468 ∧ x2468 < Int.ofNat (List.length h_Got))) <|
        chk (decide (0 ≤ x2468 ∧ x2468 < Int.ofNat (List.length h_Got))) <|
        one (Int.ofNat (List.length h_Late)) fun x2469 =>
        br (decide (x2469 > 0))
          (one (subI .i64 x2469 1) fun x2470 =>
           chk (decide (0 ≤ x2470 ∧ x2470 < Int.ofNat (List.length h_Late))) <|
           chk (decide (0 ≤ x2470 ∧ x2470 < Int.ofNat (List.length h_Late))) <|
           out (seq_Less (List.getD h_Got (Int.toNat x2468) 0) (List.getD h_Late (Int.toNat x2470) 0)) fun r2471 =>
           un_b r2471 fun x2472 r2473 =>
           un_nil r2473 <|
           br (x2472)
             (one (subI .i64 x2469 1) fun x2474 =>
              chk (decide (0 ≤ x2474 ∧ x2474 < Int.ofNat (List.length h_Late))) <|
              chk (decide (0 ≤ x2474 ∧ x2474 < Int.ofNat (List.length h_Late))) <|
              some [.i (List.getD h_Late (Int.toNat x2474) 0), .b (true)])
             (some [.i (List.getD h_Got (Int.toNat x2468) 0), .b (true)]))
          (some [.i (List.getD h_Got (Int.toNat x2468) 0), .b (true)]))
       (one (Int.ofNat (List.length h_Late)) fun x2475 =>
        br (decide (x2475 > 0))
          (one (subI .i64 x2475 1) fun x2476 =>
           chk (decide (0 ≤ x2476 ∧ x2476 < Int.ofNat (List.length h_Late))) <|
           chk (decide (0 ≤ x2476 ∧ x2476 < Int.ofNat (List.length h_Late))) <|
           some [.i (List.getD h_Late (Int.toNat x2476) 0), .b (true)])
          (some [.i (0), .b (false)])))
def win_Hear (h_Got : List Int) (h_Late : List Int) (h_Lost : List Int) (w_cwnd : Int) (w_slow : Int) (w_pipe : Int) (w_count : Int) (w_halved_n : Int) (w_halved_is : Bool) (w_last_n : Int) (w_last_is : Bool) (w_runs : Bool) (w_due : Int) (w_rtt_any : Bool) (w_rtt_smooth : Int) (w_rtt_spread : Int) (w_rtt_rto : Int) (h_Marks : Int) (h_Rtt : Int) (now : Int) : Option (List Leaf) :=
  one (Int.ofNat (List.length h_Got)) fun x2477 =>
  one (subI .i64 w_pipe x2477) fun x2478 =>
  one (Int.ofNat (List.length h_Lost)) fun x2479 =>
  one (subI .i64 x2478 x2479) fun x2480 =>
  one (maxI x2480 0) fun x2481 =>
  br (decide (h_Rtt ≥ 0))
    (out (rtt_Sample w_rtt_any w_rtt_smooth w_rtt_spread w_rtt_rto h_Rtt) fun r2482 =>
     un_b r2482 fun x2483 r2484 =>
     un_i r2484 fun x2485 r2486 =>
     un_i r2486 fun x2487 r2488 =>
     un_i r2488 fun x2489 r2490 =>
     un_nil r2490 <|
     one (Int.ofNat (List.length h_Got)) fun x2491 =>
     br (decide (x2491 > 0))
       (one (Int.ofNat (List.length h_Got)) fun x2492 =>
        out (win_grow w_cwnd w_slow x2481 w_count w_halved_n w_halved_is w_last_n w_last_is w_runs w_due x2483 x2485 x2487 x2489 x2492) fun r2493 =>
        un_i r2493 fun x2494 r2495 =>
        un_i r2495 fun x2496 r2497 =>
        un_i r2497 fun x2498 r2499 =>
        un_i r2499 fun x2500 r2501 =>
        un_i r2501 fun x2502 r2503 =>
        un_b r2503 fun x2504 r2505 =>
        un_i r2505 fun x2506 r2507 =>
        un_b r2507 fun x2508 r2509 =>
        un_b r2509 fun x2510 r2511 =>
        un_i r2511 fun x2512 r2513 =>
        un_b r2513 fun x2514 r2515 =>
        un_i r2515 fun x2516 r2517 =>
        un_i r2517 fun x2518 r2519 =>
        un_i r2519 fun x2520 r2521 =>
        un_nil r2521 <|
        one (Int.ofNat (List.length h_Lost)) fun x2522 =>
        br (decide (x2522 > 0))
          (chk (decide (Int.ofNat (List.length h_Got) = Int.ofNat (List.length h_Got)) && (decide (Int.ofNat (List.length h_Late) = Int.ofNat (List.length h_Late)) && (decide (Int.ofNat (List.length h_Lost) = Int.ofNat (List.length h_Lost)) && true)) && true) <|
           out (win_where h_Got h_Late h_Lost h_Marks h_Rtt) fun r2523 =>
           un_i r2523 fun x2524 r2525 =>
           un_b r2525 fun x2526 r2527 =>
           un_nil r2527 <|
           br (!x2504)
             (out (win_halve x2494 x2496 x2498 x2500 x2502 x2504 x2506 x2508 x2510 x2512 x2514 x2516 x2518 x2520) fun r2528 =>
              un_i r2528 fun x2529 r2530 =>
              un_i r2530 fun x2531 r2532 =>
              un_i r2532 fun x2533 r2534 =>
              un_i r2534 fun x2535 r2536 =>
              un_i r2536 fun x2537 r2538 =>
              un_b r2538 fun x2539 r2540 =>
              un_i r2540 fun x2541 r2542 =>
              un_b r2542 fun x2543 r2544 =>
              un_b r2544 fun x2545 r2546 =>
              un_i r2546 fun x2547 r2548 =>
              un_b r2548 fun x2549 r2550 =>
              un_i r2550 fun x2551 r2552 =>
              un_i r2552 fun x2553 r2554 =>
              un_i r2554 fun x2555 r2556 =>
              un_nil r2556 <|
              br (decide (x2533 > 0))
                (out (win_runsTo x2529 x2531 x2533 x2535 x2537 x2539 x2541 x2543 false x2547 x2549 x2551 x2553 x2555 now) fun r2557 =>
                 un_i r2557 fun x2558 r2559 =>
                 un_i r2559 fun x2560 r2561 =>
                 un_i r2561 fun x2562 r2563 =>
                 un_i r2563 fun x2564 r2565 =>
                 un_i r2565 fun x2566 r2567 =>
                 un_b r2567 fun x2568 r2569 =>
                 un_i r2569 fun x2570 r2571 =>
                 un_b r2571 fun x2572 r2573 =>
                 un_b r2573 fun x2574 r2575 =>
                 un_i r2575 fun x2576 r2577 =>
                 un_b r2577 fun x2578 r2579 =>
                 un_i r2579 fun x2580 r2581 =>
                 un_i r2581 fun x2582 r2583 =>
                 un_i r2583 fun x2584 r2585 =>
                 un_nil r2585 <|
                 some [.i (x2558), .i (x2560), .i (x2562), .i (x2564), .i (x2566), .b (x2568), .i (x2570), .b (x2572), .b (x2574), .i (x2576), .b (x2578), .i (x2580), .i (x2582), .i (x2584)])
                (some [.i (x2529), .i (x2531), .i (x2533), .i (x2535), .i (x2537), .b (x2539), .i (x2541), .b (x2543), .b (false), .i (x2547), .b (x2549), .i (x2551), .i (x2553), .i (x2555)]))
             (br (x2526)
                (out (seq_Less x2502 x2524) fun r2586 =>
                 un_b r2586 fun x2587 r2588 =>
                 un_nil r2588 <|
                 br (x2587)
                   (out (win_halve x2494 x2496 x2498 x2500 x2502 x2504 x2506 x2508 x2510 x2512 x2514 x2516 x2518 x2520) fun r2589 =>
                    un_i r2589 fun x2590 r2591 =>
                    un_i r2591 fun x2592 r2593 =>
                    un_i r2593 fun x2594 r2595 =>
                    un_i r2595 fun x2596 r2597 =>
                    un_i r2597 fun x2598 r2599 =>
                    un_b r2599 fun x2600 r2601 =>
                    un_i r2601 fun x2602 r2603 =>
                    un_b r2603 fun x2604 r2605 =>
                    un_b r2605 fun x2606 r2607 =>
                    un_i r2607 fun x2608 r2609 =>
                    un_b r2609 fun x2610 r2611 =>
                    un_i r2611 fun x2612 r2613 =>
                    un_i r2613 fun x2614 r2615 =>
                    un_i r2615 fun x2616 r2617 =>
                    un_nil r2617 <|
                    br (decide (x2594 > 0))
                      (out (win_runsTo x2590 x2592 x2594 x2596 x2598 x2600 x2602 x2604 false x2608 x2610 x2612 x2614 x2616 now) fun r2618 =>
                       un_i r2618 fun x2619 r2620 =>
                       un_i r2620 fun x2621 r2622 =>
                       un_i r2622 fun x2623 r2624 =>
                       un_i r2624 fun x2625 r2626 =>
                       un_i r2626 fun x2627 r2628 =>
                       un_b r2628 fun x2629 r2630 =>
                       un_i r2630 fun x2631 r2632 =>
                       un_b r2632 fun x2633 r2634 =>
                       un_b r2634 fun x2635 r2636 =>
                       un_i r2636 fun x2637 r2638 =>
                       un_b r2638 fun x2639 r2640 =>
                       un_i r2640 fun x2641 r2642 =>
                       un_i r2642 fun x2643 r2644 =>
                       un_i r2644 fun x2645 r2646 =>
                       un_nil r2646 <|
                       some [.i (x2619), .i (x2621), .i (x2623), .i (x2625), .i (x2627), .b (x2629), .i (x2631), .b (x2633), .b (x2635), .i (x2637), .b (x2639), .i (x2641), .i (x2643), .i (x2645)])
                      (some [.i (x2590), .i (x2592), .i (x2594), .i (x2596), .i (x2598), .b (x2600), .i (x2602), .b (x2604), .b (false), .i (x2608), .b (x2610), .i (x2612), .i (x2614), .i (x2616)]))
                   (br (decide (x2498 > 0))
                      (out (win_runsTo x2494 x2496 x2498 x2500 x2502 x2504 x2506 x2508 false x2512 x2514 x2516 x2518 x2520 now) fun r2647 =>
                       un_i r2647 fun x2648 r2649 =>
                       un_i r2649 fun x2650 r2651 =>
                       un_i r2651 fun x2652 r2653 =>
                       un_i r2653 fun x2654 r2655 =>
                       un_i r2655 fun x2656 r2657 =>
                       un_b r2657 fun x2658 r2659 =>
                       un_i r2659 fun x2660 r2661 =>
                       un_b r2661 fun x2662 r2663 =>
                       un_b r2663 fun x2664 r2665 =>
                       un_i r2665 fun x2666 r2667 =>
                       un_b r2667 fun x2668 r2669 =>
                       un_i r2669 fun x2670 r2671 =>
                       un_i r2671 fun x2672 r2673 =>
                       un_i r2673 fun x2674 r2675 =>
                       un_nil r2675 <|
                       some [.i (x2648), .i (x2650), .i (x2652), .i (x2654), .i (x2656), .b (x2658), .i (x2660), .b (x2662), .b (x2664), .i (x2666), .b (x2668), .i (x2670), .i (x2672), .i (x2674)])
                      (some [.i (x2494), .i (x2496), .i (x2498), .i (x2500), .i (x2502), .b (x2504), .i (x2506), .b (x2508), .b (false), .i (x2512), .b (x2514), .i (x2516), .i (x2518), .i (x2520)])))
                (br (decide (x2498 > 0))
                   (out (win_runsTo x2494 x2496 x2498 x2500 x2502 x2504 x2506 x2508 false x2512 x2514 x2516 x2518 x2520 now) fun r2676 =>
                    un_i r2676 fun x2677 r2678 =>
                    un_i r2678 fun x2679 r2680 =>
                    un_i r2680 fun x2681 r2682 =>
                    un_i r2682 fun x2683 r2684 =>
                    un_i r2684 fun x2685 r2686 =>
                    un_b r2686 fun x2687 r2688 =>
                    un_i r2688 fun x2689 r2690 =>
                    un_b r2690 fun x2691 r2692 =>
                    un_b r2692 fun x2693 r2694 =>
                    un_i r2694 fun x2695 r2696 =>
                    un_b r2696 fun x2697 r2698 =>
                    un_i r2698 fun x2699 r2700 =>
                    un_i r2700 fun x2701 r2702 =>
                    un_i r2702 fun x2703 r2704 =>
                    un_nil r2704 <|
                    some [.i (x2677), .i (x2679), .i (x2681), .i (x2683), .i (x2685), .b (x2687), .i (x2689), .b (x2691), .b (x2693), .i (x2695), .b (x2697), .i (x2699), .i (x2701), .i (x2703)])
                   (some [.i (x2494), .i (x2496), .i (x2498), .i (x2500), .i (x2502), .b (x2504), .i (x2506), .b (x2508), .b (false), .i (x2512), .b (x2514), .i (x2516), .i (x2518), .i (x2520)]))))
          (br (decide (h_Marks > 0))
             (chk (decide (Int.ofNat (List.length h_Got) = Int.ofNat (List.length h_Got)) && (decide (Int.ofNat (List.length h_Late) = Int.ofNat (List.length h_Late)) && (decide (Int.ofNat (List.length h_Lost) = Int.ofNat (List.length h_Lost)) && true)) && true) <|
              out (win_where h_Got h_Late h_Lost h_Marks h_Rtt) fun r2705 =>
              un_i r2705 fun x2706 r2707 =>
              un_b r2707 fun x2708 r2709 =>
              un_nil r2709 <|
              br (!x2504)
                (out (win_halve x2494 x2496 x2498 x2500 x2502 x2504 x2506 x2508 x2510 x2512 x2514 x2516 x2518 x2520) fun r2710 =>
                 un_i r2710 fun x2711 r2712 =>
                 un_i r2712 fun x2713 r2714 =>
                 un_i r2714 fun x2715 r2716 =>
                 un_i r2716 fun x2717 r2718 =>
                 un_i r2718 fun x2719 r2720 =>
                 un_b r2720 fun x2721 r2722 =>
                 un_i r2722 fun x2723 r2724 =>
                 un_b r2724 fun x2725 r2726 =>
                 un_b r2726 fun x2727 r2728 =>
                 un_i r2728 fun x2729 r2730 =>
                 un_b r2730 fun x2731 r2732 =>
                 un_i r2732 fun x2733 r2734 =>
                 un_i r2734 fun x2735 r2736 =>
                 un_i r2736 fun x2737 r2738 =>
                 un_nil r2738 <|
                 br (decide (x2715 > 0))
                   (out (win_runsTo x2711 x2713 x2715 x2717 x2719 x2721 x2723 x2725 false x2729 x2731 x2733 x2735 x2737 now) fun r2739 =>
                    un_i r2739 fun x2740 r2741 =>
                    un_i r2741 fun x2742 r2743 =>
                    un_i r2743 fun x2744 r2745 =>
                    un_i r2745 fun x2746 r2747 =>
                    un_i r2747 fun x2748 r2749 =>
                    un_b r2749 fun x2750 r2751 =>
                    un_i r2751 fun x2752 r2753 =>
                    un_b r2753 fun x2754 r2755 =>
                    un_b r2755 fun x2756 r2757 =>
                    un_i r2757 fun x2758 r2759 =>
                    un_b r2759 fun x2760 r2761 =>
                    un_i r2761 fun x2762 r2763 =>
                    un_i r2763 fun x2764 r2765 =>
                    un_i r2765 fun x2766 r2767 =>
                    un_nil r2767 <|
                    some [.i (x2740), .i (x2742), .i (x2744), .i (x2746), .i (x2748), .b (x2750), .i (x2752), .b (x2754), .b (x2756), .i (x2758), .b (x2760), .i (x2762), .i (x2764), .i (x2766)])
                   (some [.i (x2711), .i (x2713), .i (x2715), .i (x2717), .i (x2719), .b (x2721), .i (x2723), .b (x2725), .b (false), .i (x2729), .b (x2731), .i (x2733), .i (x2735), .i (x2737)]))
                (br (x2708)
                   (out (seq_Less x2502 x2706) fun r2768 =>
                    un_b r2768 fun x2769 r2770 =>
                    un_nil r2770 <|
                    br (x2769)
                      (out (win_halve x2494 x2496 x2498 x2500 x2502 x2504 x2506 x2508 x2510 x2512 x2514 x2516 x2518 x2520) fun r2771 =>
                       un_i r2771 fun x2772 r2773 =>
                       un_i r2773 fun x2774 r2775 =>
                       un_i r2775 fun x2776 r2777 =>
                       un_i r2777 fun x2778 r2779 =>
                       un_i r2779 fun x2780 r2781 =>
                       un_b r2781 fun x2782 r2783 =>
                       un_i r2783 fun x2784 r2785 =>
                       un_b r2785 fun x2786 r2787 =>
                       un_b r2787 fun x2788 r2789 =>
                       un_i r2789 fun x2790 r2791 =>
                       un_b r2791 fun x2792 r2793 =>
                       un_i r2793 fun x2794 r2795 =>
                       un_i r2795 fun x2796 r2797 =>
                       un_i r2797 fun x2798 r2799 =>
                       un_nil r2799 <|
                       br (decide (x2776 > 0))
                         (out (win_runsTo x2772 x2774 x2776 x2778 x2780 x2782 x2784 x2786 false x2790 x2792 x2794 x2796 x2798 now) fun r2800 =>
                          un_i r2800 fun x2801 r2802 =>
                          un_i r2802 fun x2803 r2804 =>
                          un_i r2804 fun x2805 r2806 =>
                          un_i r2806 fun x2807 r2808 =>
                          un_i r2808 fun x2809 r2810 =>
                          un_b r2810 fun x2811 r2812 =>
                          un_i r2812 fun x2813 r2814 =>
                          un_b r2814 fun x2815 r2816 =>
                          un_b r2816 fun x2817 r2818 =>
                          un_i r2818 fun x2819 r2820 =>
                          un_b r2820 fun x2821 r2822 =>
                          un_i r2822 fun x2823 r2824 =>
                          un_i r2824 fun x2825 r2826 =>
                          un_i r2826 fun x2827 r2828 =>
                          un_nil r2828 <|
                          some [.i (x2801), .i (x2803), .i (x2805), .i (x2807), .i (x2809), .b (x2811), .i (x2813), .b (x2815), .b (x2817), .i (x2819), .b (x2821), .i (x2823), .i (x2825), .i (x2827)])
                         (some [.i (x2772), .i (x2774), .i (x2776), .i (x2778), .i (x2780), .b (x2782), .i (x2784), .b (x2786), .b (false), .i (x2790), .b (x2792), .i (x2794), .i (x2796), .i (x2798)]))
                      (br (decide (x2498 > 0))
                         (out (win_runsTo x2494 x2496 x2498 x2500 x2502 x2504 x2506 x2508 false x2512 x2514 x2516 x2518 x2520 now) fun r2829 =>
                          un_i r2829 fun x2830 r2831 =>
                          un_i r2831 fun x2832 r2833 =>
                          un_i r2833 fun x2834 r2835 =>
                          un_i r2835 fun x2836 r2837 =>
                          un_i r2837 fun x2838 r2839 =>
                          un_b r2839 fun x2840 r2841 =>
                          un_i r2841 fun x2842 r2843 =>
                          un_b r2843 fun x2844 r2845 =>
                          un_b r2845 fun x2846 r2847 =>
                          un_i r2847 fun x2848 r2849 =>
                          un_b r2849 fun x2850 r2851 =>
                          un_i r2851 fun x2852 r2853 =>
                          un_i r2853 fun x2854 r2855 =>
                          un_i r2855 fun x2856 r2857 =>
                          un_nil r2857 <|
                          some [.i (x2830), .i (x2832), .i (x2834), .i (x2836), .i (x2838), .b (x2840), .i (x2842), .b (x2844), .b (x2846), .i (x2848), .b (x2850), .i (x2852), .i (x2854), .i (x2856)])
                         (some [.i (x2494), .i (x2496), .i (x2498), .i (x2500), .i (x2502), .b (x2504), .i (x2506), .b (x2508), .b (false), .i (x2512), .b (x2514), .i (x2516), .i (x2518), .i (x2520)])))
                   (br (decide (x2498 > 0))
                      (out (win_runsTo x2494 x2496 x2498 x2500 x2502 x2504 x2506 x2508 false x2512 x2514 x2516 x2518 x2520 now) fun r2858 =>
                       un_i r2858 fun x2859 r2860 =>
                       un_i r2860 fun x2861 r2862 =>
                       un_i r2862 fun x2863 r2864 =>
                       un_i r2864 fun x2865 r2866 =>
                       un_i r2866 fun x2867 r2868 =>
                       un_b r2868 fun x2869 r2870 =>
                       un_i r2870 fun x2871 r2872 =>
                       un_b r2872 fun x2873 r2874 =>
                       un_b r2874 fun x2875 r2876 =>
                       un_i r2876 fun x2877 r2878 =>
                       un_b r2878 fun x2879 r2880 =>
                       un_i r2880 fun x2881 r2882 =>
                       un_i r2882 fun x2883 r2884 =>
                       un_i r2884 fun x2885 r2886 =>
                       un_nil r2886 <|
                       some [.i (x2859), .i (x2861), .i (x2863), .i (x2865), .i (x2867), .b (x2869), .i (x2871), .b (x2873), .b (x2875), .i (x2877), .b (x2879), .i (x2881), .i (x2883), .i (x2885)])
                      (some [.i (x2494), .i (x2496), .i (x2498), .i (x2500), .i (x2502), .b (x2504), .i (x2506), .b (x2508), .b (false), .i (x2512), .b (x2514), .i (x2516), .i (x2518), .i (x2520)]))))
             (br (decide (x2498 > 0))
                (out (win_runsTo x2494 x2496 x2498 x2500 x2502 x2504 x2506 x2508 false x2512 x2514 x2516 x2518 x2520 now) fun r2887 =>
                 un_i r2887 fun x2888 r2889 =>
                 un_i r2889 fun x2890 r2891 =>
                 un_i r2891 fun x2892 r2893 =>
                 un_i r2893 fun x2894 r2895 =>
                 un_i r2895 fun x2896 r2897 =>
                 un_b r2897 fun x2898 r2899 =>
                 un_i r2899 fun x2900 r2901 =>
                 un_b r2901 fun x2902 r2903 =>
                 un_b r2903 fun x2904 r2905 =>
                 un_i r2905 fun x2906 r2907 =>
                 un_b r2907 fun x2908 r2909 =>
                 un_i r2909 fun x2910 r2911 =>
                 un_i r2911 fun x2912 r2913 =>
                 un_i r2913 fun x2914 r2915 =>
                 un_nil r2915 <|
                 some [.i (x2888), .i (x2890), .i (x2892), .i (x2894), .i (x2896), .b (x2898), .i (x2900), .b (x2902), .b (x2904), .i (x2906), .b (x2908), .i (x2910), .i (x2912), .i (x2914)])
                (some [.i (x2494), .i (x2496), .i (x2498), .i (x2500), .i (x2502), .b (x2504), .i (x2506), .b (x2508), .b (false), .i (x2512), .b (x2514), .i (x2516), .i (x2518), .i (x2520)]))))
       (one (Int.ofNat (List.length h_Lost)) fun x2916 =>
        br (decide (x2916 > 0))
          (chk (decide (Int.ofNat (List.length h_Got) = Int.ofNat (List.length h_Got)) && (decide (Int.ofNat (List.length h_Late) = Int.ofNat (List.length h_Late)) && (decide (Int.ofNat (List.length h_Lost) = Int.ofNat (List.length h_Lost)) && true)) && true) <|
           out (win_where h_Got h_Late h_Lost h_Marks h_Rtt) fun r2917 =>
           un_i r2917 fun x2918 r2919 =>
           un_b r2919 fun x2920 r2921 =>
           un_nil r2921 <|
           br (!w_halved_is)
             (out (win_halve w_cwnd w_slow x2481 w_count w_halved_n w_halved_is w_last_n w_last_is w_runs w_due x2483 x2485 x2487 x2489) fun r2922 =>
              un_i r2922 fun x2923 r2924 =>
              un_i r2924 fun x2925 r2926 =>
              un_i r2926 fun x2927 r2928 =>
              un_i r2928 fun x2929 r2930 =>
              un_i r2930 fun x2931 r2932 =>
              un_b r2932 fun x2933 r2934 =>
              un_i r2934 fun x2935 r2936 =>
              un_b r2936 fun x2937 r2938 =>
              un_b r2938 fun x2939 r2940 =>
              un_i r2940 fun x2941 r2942 =>
              un_b r2942 fun x2943 r2944 =>
              un_i r2944 fun x2945 r2946 =>
              un_i r2946 fun x2947 r2948 =>
              un_i r2948 fun x2949 r2950 =>
              un_nil r2950 <|
              br (decide (x2927 > 0))
                (out (win_runsTo x2923 x2925 x2927 x2929 x2931 x2933 x2935 x2937 false x2941 x2943 x2945 x2947 x2949 now) fun r2951 =>
                 un_i r2951 fun x2952 r2953 =>
                 un_i r2953 fun x2954 r2955 =>
                 un_i r2955 fun x2956 r2957 =>
                 un_i r2957 fun x2958 r2959 =>
                 un_i r2959 fun x2960 r2961 =>
                 un_b r2961 fun x2962 r2963 =>
                 un_i r2963 fun x2964 r2965 =>
                 un_b r2965 fun x2966 r2967 =>
                 un_b r2967 fun x2968 r2969 =>
                 un_i r2969 fun x2970 r2971 =>
                 un_b r2971 fun x2972 r2973 =>
                 un_i r2973 fun x2974 r2975 =>
                 un_i r2975 fun x2976 r2977 =>
                 un_i r2977 fun x2978 r2979 =>
                 un_nil r2979 <|
                 some [.i (x2952), .i (x2954), .i (x2956), .i (x2958), .i (x2960), .b (x2962), .i (x2964), .b (x2966), .b (x2968), .i (x2970), .b (x2972), .i (x2974), .i (x2976), .i (x2978)])
                (some [.i (x2923), .i (x2925), .i (x2927), .i (x2929), .i (x2931), .b (x2933), .i (x2935), .b (x2937), .b (false), .i (x2941), .b (x2943), .i (x2945), .i (x2947), .i (x2949)]))
             (br (x2920)
                (out (seq_Less w_halved_n x2918) fun r2980 =>
                 un_b r2980 fun x2981 r2982 =>
                 un_nil r2982 <|
                 br (x2981)
                   (out (win_halve w_cwnd w_slow x2481 w_count w_halved_n w_halved_is w_last_n w_last_is w_runs w_due x2483 x2485 x2487 x2489) fun r2983 =>
                    un_i r2983 fun x2984 r2985 =>
                    un_i r2985 fun x2986 r2987 =>
                    un_i r2987 fun x2988 r2989 =>
                    un_i r2989 fun x2990 r2991 =>
                    un_i r2991 fun x2992 r2993 =>
                    un_b r2993 fun x2994 r2995 =>
                    un_i r2995 fun x2996 r2997 =>
                    un_b r2997 fun x2998 r2999 =>
                    un_b r2999 fun x3000 r3001 =>
                    un_i r3001 fun x3002 r3003 =>
                    un_b r3003 fun x3004 r3005 =>
                    un_i r3005 fun x3006 r3007 =>
                    un_i r3007 fun x3008 r3009 =>
                    un_i r3009 fun x3010 r3011 =>
                    un_nil r3011 <|
                    br (decide (x2988 > 0))
                      (out (win_runsTo x2984 x2986 x2988 x2990 x2992 x2994 x2996 x2998 false x3002 x3004 x3006 x3008 x3010 now) fun r3012 =>
                       un_i r3012 fun x3013 r3014 =>
                       un_i r3014 fun x3015 r3016 =>
                       un_i r3016 fun x3017 r3018 =>
                       un_i r3018 fun x3019 r3020 =>
                       un_i r3020 fun x3021 r3022 =>
                       un_b r3022 fun x3023 r3024 =>
                       un_i r3024 fun x3025 r3026 =>
                       un_b r3026 fun x3027 r3028 =>
                       un_b r3028 fun x3029 r3030 =>
                       un_i r3030 fun x3031 r3032 =>
                       un_b r3032 fun x3033 r3034 =>
                       un_i r3034 fun x3035 r3036 =>
                       un_i r3036 fun x3037 r3038 =>
                       un_i r3038 fun x3039 r3040 =>
                       un_nil r3040 <|
                       some [.i (x3013), .i (x3015), .i (x3017), .i (x3019), .i (x3021), .b (x3023), .i (x3025), .b (x3027), .b (x3029), .i (x3031), .b (x3033), .i (x3035), .i (x3037), .i (x3039)])
                      (some [.i (x2984), .i (x2986), .i (x2988), .i (x2990), .i (x2992), .b (x2994), .i (x2996), .b (x2998), .b (false), .i (x3002), .b (x3004), .i (x3006), .i (x3008), .i (x3010)]))
                   (br (decide (x2481 > 0))
                      (out (win_runsTo w_cwnd w_slow x2481 w_count w_halved_n w_halved_is w_last_n w_last_is false w_due x2483 x2485 x2487 x2489 now) fun r3041 =>
                       un_i r3041 fun x3042 r3043 =>
                       un_i r3043 fun x3044 r3045 =>
                       un_i r3045 fun x3046 r3047 =>
                       un_i r3047 fun x3048 r3049 =>
                       un_i r3049 fun x3050 r3051 =>
                       un_b r3051 fun x3052 r3053 =>
                       un_i r3053 fun x3054 r3055 =>
                       un_b r3055 fun x3056 r3057 =>
                       un_b r3057 fun x3058 r3059 =>
                       un_i r3059 fun x3060 r3061 =>
                       un_b r3061 fun x3062 r3063 =>
                       un_i r3063 fun x3064 r3065 =>
                       un_i r3065 fun x3066 r3067 =>
                       un_i r3067 fun x3068 r3069 =>
                       un_nil r3069 <|
                       some [.i (x3042), .i (x3044), .i (x3046), .i (x3048), .i (x3050), .b (x3052), .i (x3054), .b (x3056), .b (x3058), .i (x3060), .b (x3062), .i (x3064), .i (x3066), .i (x3068)])
                      (some [.i (w_cwnd), .i (w_slow), .i (x2481), .i (w_count), .i (w_halved_n), .b (w_halved_is), .i (w_last_n), .b (w_last_is), .b (false), .i (w_due), .b (x2483), .i (x2485), .i (x2487), .i (x2489)])))
                (br (decide (x2481 > 0))
                   (out (win_runsTo w_cwnd w_slow x2481 w_count w_halved_n w_halved_is w_last_n w_last_is false w_due x2483 x2485 x2487 x2489 now) fun r3070 =>
                    un_i r3070 fun x3071 r3072 =>
                    un_i r3072 fun x3073 r3074 =>
                    un_i r3074 fun x3075 r3076 =>
                    un_i r3076 fun x3077 r3078 =>
                    un_i r3078 fun x3079 r3080 =>
                    un_b r3080 fun x3081 r3082 =>
                    un_i r3082 fun x3083 r3084 =>
                    un_b r3084 fun x3085 r3086 =>
                    un_b r3086 fun x3087 r3088 =>
                    un_i r3088 fun x3089 r3090 =>
                    un_b r3090 fun x3091 r3092 =>
                    un_i r3092 fun x3093 r3094 =>
                    un_i r3094 fun x3095 r3096 =>
                    un_i r3096 fun x3097 r3098 =>
                    un_nil r3098 <|
                    some [.i (x3071), .i (x3073), .i (x3075), .i (x3077), .i (x3079), .b (x3081), .i (x3083), .b (x3085), .b (x3087), .i (x3089), .b (x3091), .i (x3093), .i (x3095), .i (x3097)])
                   (some [.i (w_cwnd), .i (w_slow), .i (x2481), .i (w_count), .i (w_halved_n), .b (w_halved_is), .i (w_last_n), .b (w_last_is), .b (false), .i (w_due), .b (x2483), .i (x2485), .i (x2487), .i (x2489)]))))
          (br (decide (h_Marks > 0))
             (chk (decide (Int.ofNat (List.length h_Got) = Int.ofNat (List.length h_Got)) && (decide (Int.ofNat (List.length h_Late) = Int.ofNat (List.length h_Late)) && (decide (Int.ofNat (List.length h_Lost) = Int.ofNat (List.length h_Lost)) && true)) && true) <|
              out (win_where h_Got h_Late h_Lost h_Marks h_Rtt) fun r3099 =>
              un_i r3099 fun x3100 r3101 =>
              un_b r3101 fun x3102 r3103 =>
              un_nil r3103 <|
              br (!w_halved_is)
                (out (win_halve w_cwnd w_slow x2481 w_count w_halved_n w_halved_is w_last_n w_last_is w_runs w_due x2483 x2485 x2487 x2489) fun r3104 =>
                 un_i r3104 fun x3105 r3106 =>
                 un_i r3106 fun x3107 r3108 =>
                 un_i r3108 fun x3109 r3110 =>
                 un_i r3110 fun x3111 r3112 =>
                 un_i r3112 fun x3113 r3114 =>
                 un_b r3114 fun x3115 r3116 =>
                 un_i r3116 fun x3117 r3118 =>
                 un_b r3118 fun x3119 r3120 =>
                 un_b r3120 fun x3121 r3122 =>
                 un_i r3122 fun x3123 r3124 =>
                 un_b r3124 fun x3125 r3126 =>
                 un_i r3126 fun x3127 r3128 =>
                 un_i r3128 fun x3129 r3130 =>
                 un_i r3130 fun x3131 r3132 =>
                 un_nil r3132 <|
                 br (decide (x3109 > 0))
                   (out (win_runsTo x3105 x3107 x3109 x3111 x3113 x3115 x3117 x3119 false x3123 x3125 x3127 x3129 x3131 now) fun r3133 =>
                    un_i r3133 fun x3134 r3135 =>
                    un_i r3135 fun x3136 r3137 =>
                    un_i r3137 fun x3138 r3139 =>
                    un_i r3139 fun x3140 r3141 =>
                    un_i r3141 fun x3142 r3143 =>
                    un_b r3143 fun x3144 r3145 =>
                    un_i r3145 fun x3146 r3147 =>
                    un_b r3147 fun x3148 r3149 =>
                    un_b r3149 fun x3150 r3151 =>
                    un_i r3151 fun x3152 r3153 =>
                    un_b r3153 fun x3154 r3155 =>
                    un_i r3155 fun x3156 r3157 =>
                    un_i r3157 fun x3158 r3159 =>
                    un_i r3159 fun x3160 r3161 =>
                    un_nil r3161 <|
                    some [.i (x3134), .i (x3136), .i (x3138), .i (x3140), .i (x3142), .b (x3144), .i (x3146), .b (x3148), .b (x3150), .i (x3152), .b (x3154), .i (x3156), .i (x3158), .i (x3160)])
                   (some [.i (x3105), .i (x3107), .i (x3109), .i (x3111), .i (x3113), .b (x3115), .i (x3117), .b (x3119), .b (false), .i (x3123), .b (x3125), .i (x3127), .i (x3129), .i (x3131)]))
                (br (x3102)
                   (out (seq_Less w_halved_n x3100) fun r3162 =>
                    un_b r3162 fun x3163 r3164 =>
                    un_nil r3164 <|
                    br (x3163)
                      (out (win_halve w_cwnd w_slow x2481 w_count w_halved_n w_halved_is w_last_n w_last_is w_runs w_due x2483 x2485 x2487 x2489) fun r3165 =>
                       un_i r3165 fun x3166 r3167 =>
                       un_i r3167 fun x3168 r3169 =>
                       un_i r3169 fun x3170 r3171 =>
                       un_i r3171 fun x3172 r3173 =>
                       un_i r3173 fun x3174 r3175 =>
                       un_b r3175 fun x3176 r3177 =>
                       un_i r3177 fun x3178 r3179 =>
                       un_b r3179 fun x3180 r3181 =>
                       un_b r3181 fun x3182 r3183 =>
                       un_i r3183 fun x3184 r3185 =>
                       un_b r3185 fun x3186 r3187 =>
                       un_i r3187 fun x3188 r3189 =>
                       un_i r3189 fun x3190 r3191 =>
                       un_i r3191 fun x3192 r3193 =>
                       un_nil r3193 <|
                       br (decide (x3170 > 0))
                         (out (win_runsTo x3166 x3168 x3170 x3172 x3174 x3176 x3178 x3180 false x3184 x3186 x3188 x3190 x3192 now) fun r3194 =>
                          un_i r3194 fun x3195 r3196 =>
                          un_i r3196 fun x3197 r3198 =>
                          un_i r3198 fun x3199 r3200 =>
                          un_i r3200 fun x3201 r3202 =>
                          un_i r3202 fun x3203 r3204 =>
                          un_b r3204 fun x3205 r3206 =>
                          un_i r3206 fun x3207 r3208 =>
                          un_b r3208 fun x3209 r3210 =>
                          un_b r3210 fun x3211 r3212 =>
                          un_i r3212 fun x3213 r3214 =>
                          un_b r3214 fun x3215 r3216 =>
                          un_i r3216 fun x3217 r3218 =>
                          un_i r3218 fun x3219 r3220 =>
                          un_i r3220 fun x3221 r3222 =>
                          un_nil r3222 <|
                          some [.i (x3195), .i (x3197), .i (x3199), .i (x3201), .i (x3203), .b (x3205), .i (x3207), .b (x3209), .b (x3211), .i (x3213), .b (x3215), .i (x3217), .i (x3219), .i (x3221)])
                         (some [.i (x3166), .i (x3168), .i (x3170), .i (x3172), .i (x3174), .b (x3176), .i (x3178), .b (x3180), .b (false), .i (x3184), .b (x3186), .i (x3188), .i (x3190), .i (x3192)]))
                      (br (decide (x2481 > 0))
                         (out (win_runsTo w_cwnd w_slow x2481 w_count w_halved_n w_halved_is w_last_n w_last_is false w_due x2483 x2485 x2487 x2489 now) fun r3223 =>
                          un_i r3223 fun x3224 r3225 =>
                          un_i r3225 fun x3226 r3227 =>
                          un_i r3227 fun x3228 r3229 =>
                          un_i r3229 fun x3230 r3231 =>
                          un_i r3231 fun x3232 r3233 =>
                          un_b r3233 fun x3234 r3235 =>
                          un_i r3235 fun x3236 r3237 =>
                          un_b r3237 fun x3238 r3239 =>
                          un_b r3239 fun x3240 r3241 =>
                          un_i r3241 fun x3242 r3243 =>
                          un_b r3243 fun x3244 r3245 =>
                          un_i r3245 fun x3246 r3247 =>
                          un_i r3247 fun x3248 r3249 =>
                          un_i r3249 fun x3250 r3251 =>
                          un_nil r3251 <|
                          some [.i (x3224), .i (x3226), .i (x3228), .i (x3230), .i (x3232), .b (x3234), .i (x3236), .b (x3238), .b (x3240), .i (x3242), .b (x3244), .i (x3246), .i (x3248), .i (x3250)])
                         (some [.i (w_cwnd), .i (w_slow), .i (x2481), .i (w_count), .i (w_halved_n), .b (w_halved_is), .i (w_last_n), .b (w_last_is), .b (false), .i (w_due), .b (x2483), .i (x2485), .i (x2487), .i (x2489)])))
                   (br (decide (x2481 > 0))
                      (out (win_runsTo w_cwnd w_slow x2481 w_count w_halved_n w_halved_is w_last_n w_last_is false w_due x2483 x2485 x2487 x2489 now) fun r3252 =>
                       un_i r3252 fun x3253 r3254 =>
                       un_i r3254 fun x3255 r3256 =>
                       un_i r3256 fun x3257 r3258 =>
                       un_i r3258 fun x3259 r3260 =>
                       un_i r3260 fun x3261 r3262 =>
                       un_b r3262 fun x3263 r3264 =>
                       un_i r3264 fun x3265 r3266 =>
                       un_b r3266 fun x3267 r3268 =>
                       un_b r3268 fun x3269 r3270 =>
                       un_i r3270 fun x3271 r3272 =>
                       un_b r3272 fun x3273 r3274 =>
                       un_i r3274 fun x3275 r3276 =>
                       un_i r3276 fun x3277 r3278 =>
                       un_i r3278 fun x3279 r3280 =>
                       un_nil r3280 <|
                       some [.i (x3253), .i (x3255), .i (x3257), .i (x3259), .i (x3261), .b (x3263), .i (x3265), .b (x3267), .b (x3269), .i (x3271), .b (x3273), .i (x3275), .i (x3277), .i (x3279)])
                      (some [.i (w_cwnd), .i (w_slow), .i (x2481), .i (w_count), .i (w_halved_n), .b (w_halved_is), .i (w_last_n), .b (w_last_is), .b (false), .i (w_due), .b (x2483), .i (x2485), .i (x2487), .i (x2489)]))))
             (br (decide (x2481 > 0))
                (out (win_runsTo w_cwnd w_slow x2481 w_count w_halved_n w_halved_is w_last_n w_last_is false w_due x2483 x2485 x2487 x2489 now) fun r3281 =>
                 un_i r3281 fun x3282 r3283 =>
                 un_i r3283 fun x3284 r3285 =>
                 un_i r3285 fun x3286 r3287 =>
                 un_i r3287 fun x3288 r3289 =>
                 un_i r3289 fun x3290 r3291 =>
                 un_b r3291 fun x3292 r3293 =>
                 un_i r3293 fun x3294 r3295 =>
                 un_b r3295 fun x3296 r3297 =>
                 un_b r3297 fun x3298 r3299 =>
                 un_i r3299 fun x3300 r3301 =>
                 un_b r3301 fun x3302 r3303 =>
                 un_i r3303 fun x3304 r3305 =>
                 un_i r3305 fun x3306 r3307 =>
                 un_i r3307 fun x3308 r3309 =>
                 un_nil r3309 <|
                 some [.i (x3282), .i (x3284), .i (x3286), .i (x3288), .i (x3290), .b (x3292), .i (x3294), .b (x3296), .b (x3298), .i (x3300), .b (x3302), .i (x3304), .i (x3306), .i (x3308)])
                (some [.i (w_cwnd), .i (w_slow), .i (x2481), .i (w_count), .i (w_halved_n), .b (w_halved_is), .i (w_last_n), .b (w_last_is), .b (false), .i (w_due), .b (x2483), .i (x2485), .i (x2487), .i (x2489)])))))
    (one (Int.ofNat (List.length h_Got)) fun x3310 =>
     br (decide (x3310 > 0))
       (one (Int.ofNat (List.length h_Got)) fun x3311 =>
        out (win_grow w_cwnd w_slow x2481 w_count w_halved_n w_halved_is w_last_n w_last_is w_runs w_due w_rtt_any w_rtt_smooth w_rtt_spread w_rtt_rto x3311) fun r3312 =>
        un_i r3312 fun x3313 r3314 =>
        un_i r3314 fun x3315 r3316 =>
        un_i r3316 fun x3317 r3318 =>
        un_i r3318 fun x3319 r3320 =>
        un_i r3320 fun x3321 r3322 =>
        un_b r3322 fun x3323 r3324 =>
        un_i r3324 fun x3325 r3326 =>
        un_b r3326 fun x3327 r3328 =>
        un_b r3328 fun x3329 r3330 =>
        un_i r3330 fun x3331 r3332 =>
        un_b r3332 fun x3333 r3334 =>
        un_i r3334 fun x3335 r3336 =>
        un_i r3336 fun x3337 r3338 =>
        un_i r3338 fun x3339 r3340 =>
        un_nil r3340 <|
        one (Int.ofNat (List.length h_Lost)) fun x3341 =>
        br (decide (x3341 > 0))
          (chk (decide (Int.ofNat (List.length h_Got) = Int.ofNat (List.length h_Got)) && (decide (Int.ofNat (List.length h_Late) = Int.ofNat (List.length h_Late)) && (decide (Int.ofNat (List.length h_Lost) = Int.ofNat (List.length h_Lost)) && true)) && true) <|
           out (win_where h_Got h_Late h_Lost h_Marks h_Rtt) fun r3342 =>
           un_i r3342 fun x3343 r3344 =>
           un_b r3344 fun x3345 r3346 =>
           un_nil r3346 <|
           br (!x3323)
             (out (win_halve x3313 x3315 x3317 x3319 x3321 x3323 x3325 x3327 x3329 x3331 x3333 x3335 x3337 x3339) fun r3347 =>
              un_i r3347 fun x3348 r3349 =>
              un_i r3349 fun x3350 r3351 =>
              un_i r3351 fun x3352 r3353 =>
              un_i r3353 fun x3354 r3355 =>
              un_i r3355 fun x3356 r3357 =>
              un_b r3357 fun x3358 r3359 =>
              un_i r3359 fun x3360 r3361 =>
              un_b r3361 fun x3362 r3363 =>
              un_b r3363 fun x3364 r3365 =>
              un_i r3365 fun x3366 r3367 =>
              un_b r3367 fun x3368 r3369 =>
              un_i r3369 fun x3370 r3371 =>
              un_i r3371 fun x3372 r3373 =>
              un_i r3373 fun x3374 r3375 =>
              un_nil r3375 <|
              br (decide (x3352 > 0))
                (out (win_runsTo x3348 x3350 x3352 x3354 x3356 x3358 x3360 x3362 false x3366 x3368 x3370 x3372 x3374 now) fun r3376 =>
                 un_i r3376 fun x3377 r3378 =>
                 un_i r3378 fun x3379 r3380 =>
                 un_i r3380 fun x3381 r3382 =>
                 un_i r3382 fun x3383 r3384 =>
                 un_i r3384 fun x3385 r3386 =>
                 un_b r3386 fun x3387 r3388 =>
                 un_i r3388 fun x3389 r3390 =>
                 un_b r3390 fun x3391 r3392 =>
                 un_b r3392 fun x3393 r3394 =>
                 un_i r3394 fun x3395 r3396 =>
                 un_b r3396 fun x3397 r3398 =>
                 un_i r3398 fun x3399 r3400 =>
                 un_i r3400 fun x3401 r3402 =>
                 un_i r3402 fun x3403 r3404 =>
                 un_nil r3404 <|
                 some [.i (x3377), .i (x3379), .i (x3381), .i (x3383), .i (x3385), .b (x3387), .i (x3389), .b (x3391), .b (x3393), .i (x3395), .b (x3397), .i (x3399), .i (x3401), .i (x3403)])
                (some [.i (x3348), .i (x3350), .i (x3352), .i (x3354), .i (x3356), .b (x3358), .i (x3360), .b (x3362), .b (false), .i (x3366), .b (x3368), .i (x3370), .i (x3372), .i (x3374)]))
             (br (x3345)
                (out (seq_Less x3321 x3343) fun r3405 =>
                 un_b r3405 fun x3406 r3407 =>
                 un_nil r3407 <|
                 br (x3406)
                   (out (win_halve x3313 x3315 x3317 x3319 x3321 x3323 x3325 x3327 x3329 x3331 x3333 x3335 x3337 x3339) fun r3408 =>
                    un_i r3408 fun x3409 r3410 =>
                    un_i r3410 fun x3411 r3412 =>
                    un_i r3412 fun x3413 r3414 =>
                    un_i r3414 fun x3415 r3416 =>
                    un_i r3416 fun x3417 r3418 =>
                    un_b r3418 fun x3419 r3420 =>
                    un_i r3420 fun x3421 r3422 =>
                    un_b r3422 fun x3423 r3424 =>
                    un_b r3424 fun x3425 r3426 =>
                    un_i r3426 fun x3427 r3428 =>
                    un_b r3428 fun x3429 r3430 =>
                    un_i r3430 fun x3431 r3432 =>
                    un_i r3432 fun x3433 r3434 =>
                    un_i r3434 fun x3435 r3436 =>
                    un_nil r3436 <|
                    br (decide (x3413 > 0))
                      (out (win_runsTo x3409 x3411 x3413 x3415 x3417 x3419 x3421 x3423 false x3427 x3429 x3431 x3433 x3435 now) fun r3437 =>
                       un_i r3437 fun x3438 r3439 =>
                       un_i r3439 fun x3440 r3441 =>
                       un_i r3441 fun x3442 r3443 =>
                       un_i r3443 fun x3444 r3445 =>
                       un_i r3445 fun x3446 r3447 =>
                       un_b r3447 fun x3448 r3449 =>
                       un_i r3449 fun x3450 r3451 =>
                       un_b r3451 fun x3452 r3453 =>
                       un_b r3453 fun x3454 r3455 =>
                       un_i r3455 fun x3456 r3457 =>
                       un_b r3457 fun x3458 r3459 =>
                       un_i r3459 fun x3460 r3461 =>
                       un_i r3461 fun x3462 r3463 =>
                       un_i r3463 fun x3464 r3465 =>
                       un_nil r3465 <|
                       some [.i (x3438), .i (x3440), .i (x3442), .i (x3444), .i (x3446), .b (x3448), .i (x3450), .b (x3452), .b (x3454), .i (x3456), .b (x3458), .i (x3460), .i (x3462), .i (x3464)])
                      (some [.i (x3409), .i (x3411), .i (x3413), .i (x3415), .i (x3417), .b (x3419), .i (x3421), .b (x3423), .b (false), .i (x3427), .b (x3429), .i (x3431), .i (x3433), .i (x3435)]))
                   (br (decide (x3317 > 0))
                      (out (win_runsTo x3313 x3315 x3317 x3319 x3321 x3323 x3325 x3327 false x3331 x3333 x3335 x3337 x3339 now) fun r3466 =>
                       un_i r3466 fun x3467 r3468 =>
                       un_i r3468 fun x3469 r3470 =>
                       un_i r3470 fun x3471 r3472 =>
                       un_i r3472 fun x3473 r3474 =>
                       un_i r3474 fun x3475 r3476 =>
                       un_b r3476 fun x3477 r3478 =>
                       un_i r3478 fun x3479 r3480 =>
                       un_b r3480 fun x3481 r3482 =>
                       un_b r3482 fun x3483 r3484 =>
                       un_i r3484 fun x3485 r3486 =>
                       un_b r3486 fun x3487 r3488 =>
                       un_i r3488 fun x3489 r3490 =>
                       un_i r3490 fun x3491 r3492 =>
                       un_i r3492 fun x3493 r3494 =>
                       un_nil r3494 <|
                       some [.i (x3467), .i (x3469), .i (x3471), .i (x3473), .i (x3475), .b (x3477), .i (x3479), .b (x3481), .b (x3483), .i (x3485), .b (x3487), .i (x3489), .i (x3491), .i (x3493)])
                      (some [.i (x3313), .i (x3315), .i (x3317), .i (x3319), .i (x3321), .b (x3323), .i (x3325), .b (x3327), .b (false), .i (x3331), .b (x3333), .i (x3335), .i (x3337), .i (x3339)])))
                (br (decide (x3317 > 0))
                   (out (win_runsTo x3313 x3315 x3317 x3319 x3321 x3323 x3325 x3327 false x3331 x3333 x3335 x3337 x3339 now) fun r3495 =>
                    un_i r3495 fun x3496 r3497 =>
                    un_i r3497 fun x3498 r3499 =>
                    un_i r3499 fun x3500 r3501 =>
                    un_i r3501 fun x3502 r3503 =>
                    un_i r3503 fun x3504 r3505 =>
                    un_b r3505 fun x3506 r3507 =>
                    un_i r3507 fun x3508 r3509 =>
                    un_b r3509 fun x3510 r3511 =>
                    un_b r3511 fun x3512 r3513 =>
                    un_i r3513 fun x3514 r3515 =>
                    un_b r3515 fun x3516 r3517 =>
                    un_i r3517 fun x3518 r3519 =>
                    un_i r3519 fun x3520 r3521 =>
                    un_i r3521 fun x3522 r3523 =>
                    un_nil r3523 <|
                    some [.i (x3496), .i (x3498), .i (x3500), .i (x3502), .i (x3504), .b (x3506), .i (x3508), .b (x3510), .b (x3512), .i (x3514), .b (x3516), .i (x3518), .i (x3520), .i (x3522)])
                   (some [.i (x3313), .i (x3315), .i (x3317), .i (x3319), .i (x3321), .b (x3323), .i (x3325), .b (x3327), .b (false), .i (x3331), .b (x3333), .i (x3335), .i (x3337), .i (x3339)]))))
          (br (decide (h_Marks > 0))
             (chk (decide (Int.ofNat (List.length h_Got) = Int.ofNat (List.length h_Got)) && (decide (Int.ofNat (List.length h_Late) = Int.ofNat (List.length h_Late)) && (decide (Int.ofNat (List.length h_Lost) = Int.ofNat (List.length h_Lost)) && true)) && true) <|
              out (win_where h_Got h_Late h_Lost h_Marks h_Rtt) fun r3524 =>
              un_i r3524 fun x3525 r3526 =>
              un_b r3526 fun x3527 r3528 =>
              un_nil r3528 <|
              br (!x3323)
                (out (win_halve x3313 x3315 x3317 x3319 x3321 x3323 x3325 x3327 x3329 x3331 x3333 x3335 x3337 x3339) fun r3529 =>
                 un_i r3529 fun x3530 r3531 =>
                 un_i r3531 fun x3532 r3533 =>
                 un_i r3533 fun x3534 r3535 =>
                 un_i r3535 fun x3536 r3537 =>
                 un_i r3537 fun x3538 r3539 =>
                 un_b r3539 fun x3540 r3541 =>
                 un_i r3541 fun x3542 r3543 =>
                 un_b r3543 fun x3544 r3545 =>
                 un_b r3545 fun x3546 r3547 =>
                 un_i r3547 fun x3548 r3549 =>
                 un_b r3549 fun x3550 r3551 =>
                 un_i r3551 fun x3552 r3553 =>
                 un_i r3553 fun x3554 r3555 =>
                 un_i r3555 fun x3556 r3557 =>
                 un_nil r3557 <|
                 br (decide (x3534 > 0))
                   (out (win_runsTo x3530 x3532 x3534 x3536 x3538 x3540 x3542 x3544 false x3548 x3550 x3552 x3554 x3556 now) fun r3558 =>
                    un_i r3558 fun x3559 r3560 =>
                    un_i r3560 fun x3561 r3562 =>
                    un_i r3562 fun x3563 r3564 =>
                    un_i r3564 fun x3565 r3566 =>
                    un_i r3566 fun x3567 r3568 =>
                    un_b r3568 fun x3569 r3570 =>
                    un_i r3570 fun x3571 r3572 =>
                    un_b r3572 fun x3573 r3574 =>
                    un_b r3574 fun x3575 r3576 =>
                    un_i r3576 fun x3577 r3578 =>
                    un_b r3578 fun x3579 r3580 =>
                    un_i r3580 fun x3581 r3582 =>
                    un_i r3582 fun x3583 r3584 =>
                    un_i r3584 fun x3585 r3586 =>
                    un_nil r3586 <|
                    some [.i (x3559), .i (x3561), .i (x3563), .i (x3565), .i (x3567), .b (x3569), .i (x3571), .b (x3573), .b (x3575), .i (x3577), .b (x3579), .i (x3581), .i (x3583), .i (x3585)])
                   (some [.i (x3530), .i (x3532), .i (x3534), .i (x3536), .i (x3538), .b (x3540), .i (x3542), .b (x3544), .b (false), .i (x3548), .b (x3550), .i (x3552), .i (x3554), .i (x3556)]))
                (br (x3527)
                   (out (seq_Less x3321 x3525) fun r3587 =>
                    un_b r3587 fun x3588 r3589 =>
                    un_nil r3589 <|
                    br (x3588)
                      (out (win_halve x3313 x3315 x3317 x3319 x3321 x3323 x3325 x3327 x3329 x3331 x3333 x3335 x3337 x3339) fun r3590 =>
                       un_i r3590 fun x3591 r3592 =>
                       un_i r3592 fun x3593 r3594 =>
                       un_i r3594 fun x3595 r3596 =>
                       un_i r3596 fun x3597 r3598 =>
                       un_i r3598 fun x3599 r3600 =>
                       un_b r3600 fun x3601 r3602 =>
                       un_i r3602 fun x3603 r3604 =>
                       un_b r3604 fun x3605 r3606 =>
                       un_b r3606 fun x3607 r3608 =>
                       un_i r3608 fun x3609 r3610 =>
                       un_b r3610 fun x3611 r3612 =>
                       un_i r3612 fun x3613 r3614 =>
                       un_i r3614 fun x3615 r3616 =>
                       un_i r3616 fun x3617 r3618 =>
                       un_nil r3618 <|
                       br (decide (x3595 > 0))
                         (out (win_runsTo x3591 x3593 x3595 x3597 x3599 x3601 x3603 x3605 false x3609 x3611 x3613 x3615 x3617 now) fun r3619 =>
                          un_i r3619 fun x3620 r3621 =>
                          un_i r3621 fun x3622 r3623 =>
                          un_i r3623 fun x3624 r3625 =>
                          un_i r3625 fun x3626 r3627 =>
                          un_i r3627 fun x3628 r3629 =>
                          un_b r3629 fun x3630 r3631 =>
                          un_i r3631 fun x3632 r3633 =>
                          un_b r3633 fun x3634 r3635 =>
                          un_b r3635 fun x3636 r3637 =>
                          un_i r3637 fun x3638 r3639 =>
                          un_b r3639 fun x3640 r3641 =>
                          un_i r3641 fun x3642 r3643 =>
                          un_i r3643 fun x3644 r3645 =>
                          un_i r3645 fun x3646 r3647 =>
                          un_nil r3647 <|
                          some [.i (x3620), .i (x3622), .i (x3624), .i (x3626), .i (x3628), .b (x3630), .i (x3632), .b (x3634), .b (x3636), .i (x3638), .b (x3640), .i (x3642), .i (x3644), .i (x3646)])
                         (some [.i (x3591), .i (x3593), .i (x3595), .i (x3597), .i (x3599), .b (x3601), .i (x3603), .b (x3605), .b (false), .i (x3609), .b (x3611), .i (x3613), .i (x3615), .i (x3617)]))
                      (br (decide (x3317 > 0))
                         (out (win_runsTo x3313 x3315 x3317 x3319 x3321 x3323 x3325 x3327 false x3331 x3333 x3335 x3337 x3339 now) fun r3648 =>
                          un_i r3648 fun x3649 r3650 =>
                          un_i r3650 fun x3651 r3652 =>
                          un_i r3652 fun x3653 r3654 =>
                          un_i r3654 fun x3655 r3656 =>
                          un_i r3656 fun x3657 r3658 =>
                          un_b r3658 fun x3659 r3660 =>
                          un_i r3660 fun x3661 r3662 =>
                          un_b r3662 fun x3663 r3664 =>
                          un_b r3664 fun x3665 r3666 =>
                          un_i r3666 fun x3667 r3668 =>
                          un_b r3668 fun x3669 r3670 =>
                          un_i r3670 fun x3671 r3672 =>
                          un_i r3672 fun x3673 r3674 =>
                          un_i r3674 fun x3675 r3676 =>
                          un_nil r3676 <|
                          some [.i (x3649), .i (x3651), .i (x3653), .i (x3655), .i (x3657), .b (x3659), .i (x3661), .b (x3663), .b (x3665), .i (x3667), .b (x3669), .i (x3671), .i (x3673), .i (x3675)])
                         (some [.i (x3313), .i (x3315), .i (x3317), .i (x3319), .i (x3321), .b (x3323), .i (x3325), .b (x3327), .b (false), .i (x3331), .b (x3333), .i (x3335), .i (x3337), .i (x3339)])))
                   (br (decide (x3317 > 0))
                      (out (win_runsTo x3313 x3315 x3317 x3319 x3321 x3323 x3325 x3327 false x3331 x3333 x3335 x3337 x3339 now) fun r3677 =>
                       un_i r3677 fun x3678 r3679 =>
                       un_i r3679 fun x3680 r3681 =>
                       un_i r3681 fun x3682 r3683 =>
                       un_i r3683 fun x3684 r3685 =>
                       un_i r3685 fun x3686 r3687 =>
                       un_b r3687 fun x3688 r3689 =>
                       un_i r3689 fun x3690 r3691 =>
                       un_b r3691 fun x3692 r3693 =>
                       un_b r3693 fun x3694 r3695 =>
                       un_i r3695 fun x3696 r3697 =>
                       un_b r3697 fun x3698 r3699 =>
                       un_i r3699 fun x3700 r3701 =>
                       un_i r3701 fun x3702 r3703 =>
                       un_i r3703 fun x3704 r3705 =>
                       un_nil r3705 <|
                       some [.i (x3678), .i (x3680), .i (x3682), .i (x3684), .i (x3686), .b (x3688), .i (x3690), .b (x3692), .b (x3694), .i (x3696), .b (x3698), .i (x3700), .i (x3702), .i (x3704)])
                      (some [.i (x3313), .i (x3315), .i (x3317), .i (x3319), .i (x3321), .b (x3323), .i (x3325), .b (x3327), .b (false), .i (x3331), .b (x3333), .i (x3335), .i (x3337), .i (x3339)]))))
             (br (decide (x3317 > 0))
                (out (win_runsTo x3313 x3315 x3317 x3319 x3321 x3323 x3325 x3327 false x3331 x3333 x3335 x3337 x3339 now) fun r3706 =>
                 un_i r3706 fun x3707 r3708 =>
                 un_i r3708 fun x3709 r3710 =>
                 un_i r3710 fun x3711 r3712 =>
                 un_i r3712 fun x3713 r3714 =>
                 un_i r3714 fun x3715 r3716 =>
                 un_b r3716 fun x3717 r3718 =>
                 un_i r3718 fun x3719 r3720 =>
                 un_b r3720 fun x3721 r3722 =>
                 un_b r3722 fun x3723 r3724 =>
                 un_i r3724 fun x3725 r3726 =>
                 un_b r3726 fun x3727 r3728 =>
                 un_i r3728 fun x3729 r3730 =>
                 un_i r3730 fun x3731 r3732 =>
                 un_i r3732 fun x3733 r3734 =>
                 un_nil r3734 <|
                 some [.i (x3707), .i (x3709), .i (x3711), .i (x3713), .i (x3715), .b (x3717), .i (x3719), .b (x3721), .b (x3723), .i (x3725), .b (x3727), .i (x3729), .i (x3731), .i (x3733)])
                (some [.i (x3313), .i (x3315), .i (x3317), .i (x3319), .i (x3321), .b (x3323), .i (x3325), .b (x3327), .b (false), .i (x3331), .b (x3333), .i (x3335), .i (x3337), .i (x3339)]))))
       (one (Int.ofNat (List.length h_Lost)) fun x3735 =>
        br (decide (x3735 > 0))
          (chk (decide (Int.ofNat (List.length h_Got) = Int.ofNat (List.length h_Got)) && (decide (Int.ofNat (List.length h_Late) = Int.ofNat (List.length h_Late)) && (decide (Int.ofNat (List.length h_Lost) = Int.ofNat (List.length h_Lost)) && true)) && true) <|
           out (win_where h_Got h_Late h_Lost h_Marks h_Rtt) fun r3736 =>
           un_i r3736 fun x3737 r3738 =>
           un_b r3738 fun x3739 r3740 =>
           un_nil r3740 <|
           br (!w_halved_is)
             (out (win_halve w_cwnd w_slow x2481 w_count w_halved_n w_halved_is w_last_n w_last_is w_runs w_due w_rtt_any w_rtt_smooth w_rtt_spread w_rtt_rto) fun r3741 =>
              un_i r3741 fun x3742 r3743 =>
              un_i r3743 fun x3744 r3745 =>
              un_i r3745 fun x3746 r3747 =>
              un_i r3747 fun x3748 r3749 =>
              un_i r3749 fun x3750 r3751 =>
              un_b r3751 fun x3752 r3753 =>
              un_i r3753 fun x3754 r3755 =>
              un_b r3755 fun x3756 r3757 =>
              un_b r3757 fun x3758 r3759 =>
              un_i r3759 fun x3760 r3761 =>
              un_b r3761 fun x3762 r3763 =>
              un_i r3763 fun x3764 r3765 =>
              un_i r3765 fun x3766 r3767 =>
              un_i r3767 fun x3768 r3769 =>
              un_nil r3769 <|
              br (decide (x3746 > 0))
                (out (win_runsTo x3742 x3744 x3746 x3748 x3750 x3752 x3754 x3756 false x3760 x3762 x3764 x3766 x3768 now) fun r3770 =>
                 un_i r3770 fun x3771 r3772 =>
                 un_i r3772 fun x3773 r3774 =>
                 un_i r3774 fun x3775 r3776 =>
                 un_i r3776 fun x3777 r3778 =>
                 un_i r3778 fun x3779 r3780 =>
                 un_b r3780 fun x3781 r3782 =>
                 un_i r3782 fun x3783 r3784 =>
                 un_b r3784 fun x3785 r3786 =>
                 un_b r3786 fun x3787 r3788 =>
                 un_i r3788 fun x3789 r3790 =>
                 un_b r3790 fun x3791 r3792 =>
                 un_i r3792 fun x3793 r3794 =>
                 un_i r3794 fun x3795 r3796 =>
                 un_i r3796 fun x3797 r3798 =>
                 un_nil r3798 <|
                 some [.i (x3771), .i (x3773), .i (x3775), .i (x3777), .i (x3779), .b (x3781), .i (x3783), .b (x3785), .b (x3787), .i (x3789), .b (x3791), .i (x3793), .i (x3795), .i (x3797)])
                (some [.i (x3742), .i (x3744), .i (x3746), .i (x3748), .i (x3750), .b (x3752), .i (x3754), .b (x3756), .b (false), .i (x3760), .b (x3762), .i (x3764), .i (x3766), .i (x3768)]))
             (br (x3739)
                (out (seq_Less w_halved_n x3737) fun r3799 =>
                 un_b r3799 fun x3800 r3801 =>
                 un_nil r3801 <|
                 br (x3800)
                   (out (win_halve w_cwnd w_slow x2481 w_count w_halved_n w_halved_is w_last_n w_last_is w_runs w_due w_rtt_any w_rtt_smooth w_rtt_spread w_rtt_rto) fun r3802 =>
                    un_i r3802 fun x3803 r3804 =>
                    un_i r3804 fun x3805 r3806 =>
                    un_i r3806 fun x3807 r3808 =>
                    un_i r3808 fun x3809 r3810 =>
                    un_i r3810 fun x3811 r3812 =>
                    un_b r3812 fun x3813 r3814 =>
                    un_i r3814 fun x3815 r3816 =>
                    un_b r3816 fun x3817 r3818 =>
                    un_b r3818 fun x3819 r3820 =>
                    un_i r3820 fun x3821 r3822 =>
                    un_b r3822 fun x3823 r3824 =>
                    un_i r3824 fun x3825 r3826 =>
                    un_i r3826 fun x3827 r3828 =>
                    un_i r3828 fun x3829 r3830 =>
                    un_nil r3830 <|
                    br (decide (x3807 > 0))
                      (out (win_runsTo x3803 x3805 x3807 x3809 x3811 x3813 x3815 x3817 false x3821 x3823 x3825 x3827 x3829 now) fun r3831 =>
                       un_i r3831 fun x3832 r3833 =>
                       un_i r3833 fun x3834 r3835 =>
                       un_i r3835 fun x3836 r3837 =>
                       un_i r3837 fun x3838 r3839 =>
                       un_i r3839 fun x3840 r3841 =>
                       un_b r3841 fun x3842 r3843 =>
                       un_i r3843 fun x3844 r3845 =>
                       un_b r3845 fun x3846 r3847 =>
                       un_b r3847 fun x3848 r3849 =>
                       un_i r3849 fun x3850 r3851 =>
                       un_b r3851 fun x3852 r3853 =>
                       un_i r3853 fun x3854 r3855 =>
                       un_i r3855 fun x3856 r3857 =>
                       un_i r3857 fun x3858 r3859 =>
                       un_nil r3859 <|
                       some [.i (x3832), .i (x3834), .i (x3836), .i (x3838), .i (x3840), .b (x3842), .i (x3844), .b (x3846), .b (x3848), .i (x3850), .b (x3852), .i (x3854), .i (x3856), .i (x3858)])
                      (some [.i (x3803), .i (x3805), .i (x3807), .i (x3809), .i (x3811), .b (x3813), .i (x3815), .b (x3817), .b (false), .i (x3821), .b (x3823), .i (x3825), .i (x3827), .i (x3829)]))
                   (br (decide (x2481 > 0))
                      (out (win_runsTo w_cwnd w_slow x2481 w_count w_halved_n w_halved_is w_last_n w_last_is false w_due w_rtt_any w_rtt_smooth w_rtt_spread w_rtt_rto now) fun r3860 =>
                       un_i r3860 fun x3861 r3862 =>
                       un_i r3862 fun x3863 r3864 =>
                       un_i r3864 fun x3865 r3866 =>
                       un_i r3866 fun x3867 r3868 =>
                       un_i r3868 fun x3869 r3870 =>
                       un_b r3870 fun x3871 r3872 =>
                       un_i r3872 fun x3873 r3874 =>
                       un_b r3874 fun x3875 r3876 =>
                       un_b r3876 fun x3877 r3878 =>
                       un_i r3878 fun x3879 r3880 =>
                       un_b r3880 fun x3881 r3882 =>
                       un_i r3882 fun x3883 r3884 =>
                       un_i r3884 fun x3885 r3886 =>
                       un_i r3886 fun x3887 r3888 =>
                       un_nil r3888 <|
                       some [.i (x3861), .i (x3863), .i (x3865), .i (x3867), .i (x3869), .b (x3871), .i (x3873), .b (x3875), .b (x3877), .i (x3879), .b (x3881), .i (x3883), .i (x3885), .i (x3887)])
                      (some [.i (w_cwnd), .i (w_slow), .i (x2481), .i (w_count), .i (w_halved_n), .b (w_halved_is), .i (w_last_n), .b (w_last_is), .b (false), .i (w_due), .b (w_rtt_any), .i (w_rtt_smooth), .i (w_rtt_spread), .i (w_rtt_rto)])))
                (br (decide (x2481 > 0))
                   (out (win_runsTo w_cwnd w_slow x2481 w_count w_halved_n w_halved_is w_last_n w_last_is false w_due w_rtt_any w_rtt_smooth w_rtt_spread w_rtt_rto now) fun r3889 =>
                    un_i r3889 fun x3890 r3891 =>
                    un_i r3891 fun x3892 r3893 =>
                    un_i r3893 fun x3894 r3895 =>
                    un_i r3895 fun x3896 r3897 =>
                    un_i r3897 fun x3898 r3899 =>
                    un_b r3899 fun x3900 r3901 =>
                    un_i r3901 fun x3902 r3903 =>
                    un_b r3903 fun x3904 r3905 =>
                    un_b r3905 fun x3906 r3907 =>
                    un_i r3907 fun x3908 r3909 =>
                    un_b r3909 fun x3910 r3911 =>
                    un_i r3911 fun x3912 r3913 =>
                    un_i r3913 fun x3914 r3915 =>
                    un_i r3915 fun x3916 r3917 =>
                    un_nil r3917 <|
                    some [.i (x3890), .i (x3892), .i (x3894), .i (x3896), .i (x3898), .b (x3900), .i (x3902), .b (x3904), .b (x3906), .i (x3908), .b (x3910), .i (x3912), .i (x3914), .i (x3916)])
                   (some [.i (w_cwnd), .i (w_slow), .i (x2481), .i (w_count), .i (w_halved_n), .b (w_halved_is), .i (w_last_n), .b (w_last_is), .b (false), .i (w_due), .b (w_rtt_any), .i (w_rtt_smooth), .i (w_rtt_spread), .i (w_rtt_rto)]))))
          (br (decide (h_Marks > 0))
             (chk (decide (Int.ofNat (List.length h_Got) = Int.ofNat (List.length h_Got)) && (decide (Int.ofNat (List.length h_Late) = Int.ofNat (List.length h_Late)) && (decide (Int.ofNat (List.length h_Lost) = Int.ofNat (List.length h_Lost)) && true)) && true) <|
              out (win_where h_Got h_Late h_Lost h_Marks h_Rtt) fun r3918 =>
              un_i r3918 fun x3919 r3920 =>
              un_b r3920 fun x3921 r3922 =>
              un_nil r3922 <|
              br (!w_halved_is)
                (out (win_halve w_cwnd w_slow x2481 w_count w_halved_n w_halved_is w_last_n w_last_is w_runs w_due w_rtt_any w_rtt_smooth w_rtt_spread w_rtt_rto) fun r3923 =>
                 un_i r3923 fun x3924 r3925 =>
                 un_i r3925 fun x3926 r3927 =>
                 un_i r3927 fun x3928 r3929 =>
                 un_i r3929 fun x3930 r3931 =>
                 un_i r3931 fun x3932 r3933 =>
                 un_b r3933 fun x3934 r3935 =>
                 un_i r3935 fun x3936 r3937 =>
                 un_b r3937 fun x3938 r3939 =>
                 un_b r3939 fun x3940 r3941 =>
                 un_i r3941 fun x3942 r3943 =>
                 un_b r3943 fun x3944 r3945 =>
                 un_i r3945 fun x3946 r3947 =>
                 un_i r3947 fun x3948 r3949 =>
                 un_i r3949 fun x3950 r3951 =>
                 un_nil r3951 <|
                 br (decide (x3928 > 0))
                   (out (win_runsTo x3924 x3926 x3928 x3930 x3932 x3934 x3936 x3938 false x3942 x3944 x3946 x3948 x3950 now) fun r3952 =>
                    un_i r3952 fun x3953 r3954 =>
                    un_i r3954 fun x3955 r3956 =>
                    un_i r3956 fun x3957 r3958 =>
                    un_i r3958 fun x3959 r3960 =>
                    un_i r3960 fun x3961 r3962 =>
                    un_b r3962 fun x3963 r3964 =>
                    un_i r3964 fun x3965 r3966 =>
                    un_b r3966 fun x3967 r3968 =>
                    un_b r3968 fun x3969 r3970 =>
                    un_i r3970 fun x3971 r3972 =>
                    un_b r3972 fun x3973 r3974 =>
                    un_i r3974 fun x3975 r3976 =>
                    un_i r3976 fun x3977 r3978 =>
                    un_i r3978 fun x3979 r3980 =>
                    un_nil r3980 <|
                    some [.i (x3953), .i (x3955), .i (x3957), .i (x3959), .i (x3961), .b (x3963), .i (x3965), .b (x3967), .b (x3969), .i (x3971), .b (x3973), .i (x3975), .i (x3977), .i (x3979)])
                   (some [.i (x3924), .i (x3926), .i (x3928), .i (x3930), .i (x3932), .b (x3934), .i (x3936), .b (x3938), .b (false), .i (x3942), .b (x3944), .i (x3946), .i (x3948), .i (x3950)]))
                (br (x3921)
                   (out (seq_Less w_halved_n x3919) fun r3981 =>
                    un_b r3981 fun x3982 r3983 =>
                    un_nil r3983 <|
                    br (x3982)
                      (out (win_halve w_cwnd w_slow x2481 w_count w_halved_n w_halved_is w_last_n w_last_is w_runs w_due w_rtt_any w_rtt_smooth w_rtt_spread w_rtt_rto) fun r3984 =>
                       un_i r3984 fun x3985 r3986 =>
                       un_i r3986 fun x3987 r3988 =>
                       un_i r3988 fun x3989 r3990 =>
                       un_i r3990 fun x3991 r3992 =>
                       un_i r3992 fun x3993 r3994 =>
                       un_b r3994 fun x3995 r3996 =>
                       un_i r3996 fun x3997 r3998 =>
                       un_b r3998 fun x3999 r4000 =>
                       un_b r4000 fun x4001 r4002 =>
                       un_i r4002 fun x4003 r4004 =>
                       un_b r4004 fun x4005 r4006 =>
                       un_i r4006 fun x4007 r4008 =>
                       un_i r4008 fun x4009 r4010 =>
                       un_i r4010 fun x4011 r4012 =>
                       un_nil r4012 <|
                       br (decide (x3989 > 0))
                         (out (win_runsTo x3985 x3987 x3989 x3991 x3993 x3995 x3997 x3999 false x4003 x4005 x4007 x4009 x4011 now) fun r4013 =>
                          un_i r4013 fun x4014 r4015 =>
                          un_i r4015 fun x4016 r4017 =>
                          un_i r4017 fun x4018 r4019 =>
                          un_i r4019 fun x4020 r4021 =>
                          un_i r4021 fun x4022 r4023 =>
                          un_b r4023 fun x4024 r4025 =>
                          un_i r4025 fun x4026 r4027 =>
                          un_b r4027 fun x4028 r4029 =>
                          un_b r4029 fun x4030 r4031 =>
                          un_i r4031 fun x4032 r4033 =>
                          un_b r4033 fun x4034 r4035 =>
                          un_i r4035 fun x4036 r4037 =>
                          un_i r4037 fun x4038 r4039 =>
                          un_i r4039 fun x4040 r4041 =>
                          un_nil r4041 <|
                          some [.i (x4014), .i (x4016), .i (x4018), .i (x4020), .i (x4022), .b (x4024), .i (x4026), .b (x4028), .b (x4030), .i (x4032), .b (x4034), .i (x4036), .i (x4038), .i (x4040)])
                         (some [.i (x3985), .i (x3987), .i (x3989), .i (x3991), .i (x3993), .b (x3995), .i (x3997), .b (x3999), .b (false), .i (x4003), .b (x4005), .i (x4007), .i (x4009), .i (x4011)]))
                      (br (decide (x2481 > 0))
                         (out (win_runsTo w_cwnd w_slow x2481 w_count w_halved_n w_halved_is w_last_n w_last_is false w_due w_rtt_any w_rtt_smooth w_rtt_spread w_rtt_rto now) fun r4042 =>
                          un_i r4042 fun x4043 r4044 =>
                          un_i r4044 fun x4045 r4046 =>
                          un_i r4046 fun x4047 r4048 =>
                          un_i r4048 fun x4049 r4050 =>
                          un_i r4050 fun x4051 r4052 =>
                          un_b r4052 fun x4053 r4054 =>
                          un_i r4054 fun x4055 r4056 =>
                          un_b r4056 fun x4057 r4058 =>
                          un_b r4058 fun x4059 r4060 =>
                          un_i r4060 fun x4061 r4062 =>
                          un_b r4062 fun x4063 r4064 =>
                          un_i r4064 fun x4065 r4066 =>
                          un_i r4066 fun x4067 r4068 =>
                          un_i r4068 fun x4069 r4070 =>
                          un_nil r4070 <|
                          some [.i (x4043), .i (x4045), .i (x4047), .i (x4049), .i (x4051), .b (x4053), .i (x4055), .b (x4057), .b (x4059), .i (x4061), .b (x4063), .i (x4065), .i (x4067), .i (x4069)])
                         (some [.i (w_cwnd), .i (w_slow), .i (x2481), .i (w_count), .i (w_halved_n), .b (w_halved_is), .i (w_last_n), .b (w_last_is), .b (false), .i (w_due), .b (w_rtt_any), .i (w_rtt_smooth), .i (w_rtt_spread), .i (w_rtt_rto)])))
                   (br (decide (x2481 > 0))
                      (out (win_runsTo w_cwnd w_slow x2481 w_count w_halved_n w_halved_is w_last_n w_last_is false w_due w_rtt_any w_rtt_smooth w_rtt_spread w_rtt_rto now) fun r4071 =>
                       un_i r4071 fun x4072 r4073 =>
                       un_i r4073 fun x4074 r4075 =>
                       un_i r4075 fun x4076 r4077 =>
                       un_i r4077 fun x4078 r4079 =>
                       un_i r4079 fun x4080 r4081 =>
                       un_b r4081 fun x4082 r4083 =>
                       un_i r4083 fun x4084 r4085 =>
                       un_b r4085 fun x4086 r4087 =>
                       un_b r4087 fun x4088 r4089 =>
                       un_i r4089 fun x4090 r4091 =>
                       un_b r4091 fun x4092 r4093 =>
                       un_i r4093 fun x4094 r4095 =>
                       un_i r4095 fun x4096 r4097 =>
                       un_i r4097 fun x4098 r4099 =>
                       un_nil r4099 <|
                       some [.i (x4072), .i (x4074), .i (x4076), .i (x4078), .i (x4080), .b (x4082), .i (x4084), .b (x4086), .b (x4088), .i (x4090), .b (x4092), .i (x4094), .i (x4096), .i (x4098)])
                      (some [.i (w_cwnd), .i (w_slow), .i (x2481), .i (w_count), .i (w_halved_n), .b (w_halved_is), .i (w_last_n), .b (w_last_is), .b (false), .i (w_due), .b (w_rtt_any), .i (w_rtt_smooth), .i (w_rtt_spread), .i (w_rtt_rto)]))))
             (br (decide (x2481 > 0))
                (out (win_runsTo w_cwnd w_slow x2481 w_count w_halved_n w_halved_is w_last_n w_last_is false w_due w_rtt_any w_rtt_smooth w_rtt_spread w_rtt_rto now) fun r4100 =>
                 un_i r4100 fun x4101 r4102 =>
                 un_i r4102 fun x4103 r4104 =>
                 un_i r4104 fun x4105 r4106 =>
                 un_i r4106 fun x4107 r4108 =>
                 un_i r4108 fun x4109 r4110 =>
                 un_b r4110 fun x4111 r4112 =>
                 un_i r4112 fun x4113 r4114 =>
                 un_b r4114 fun x4115 r4116 =>
                 un_b r4116 fun x4117 r4118 =>
                 un_i r4118 fun x4119 r4120 =>
                 un_b r4120 fun x4121 r4122 =>
                 un_i r4122 fun x4123 r4124 =>
                 un_i r4124 fun x4125 r4126 =>
                 un_i r4126 fun x4127 r4128 =>
                 un_nil r4128 <|
                 some [.i (x4101), .i (x4103), .i (x4105), .i (x4107), .i (x4109), .b (x4111), .i (x4113), .b (x4115), .b (x4117), .i (x4119), .b (x4121), .i (x4123), .i (x4125), .i (x4127)])
                (some [.i (w_cwnd), .i (w_slow), .i (x2481), .i (w_count), .i (w_halved_n), .b (w_halved_is), .i (w_last_n), .b (w_last_is), .b (false), .i (w_due), .b (w_rtt_any), .i (w_rtt_smooth), .i (w_rtt_spread), .i (w_rtt_rto)])))))
def win_Due (w_cwnd : Int) (w_slow : Int) (w_pipe : Int) (w_count : Int) (w_halved_n : Int) (w_halved_is : Bool) (w_last_n : Int) (w_last_is : Bool) (w_runs : Bool) (w_due : Int) (w_rtt_any : Bool) (w_rtt_smooth : Int) (w_rtt_spread : Int) (w_rtt_rto : Int) : Option (List Leaf) :=
  br (!w_runs)
    (some [.i (0), .b (false)])
    (some [.i (w_due), .b (true)])
def win_Fire (w_cwnd : Int) (w_slow : Int) (w_pipe : Int) (w_count : Int) (w_halved_n : Int) (w_halved_is : Bool) (w_last_n : Int) (w_last_is : Bool) (w_runs : Bool) (w_due : Int) (w_rtt_any : Bool) (w_rtt_smooth : Int) (w_rtt_spread : Int) (w_rtt_rto : Int) (now : Int) : Option (List Leaf) :=
  br (!w_runs)
    (some [.i (w_cwnd), .i (w_slow), .i (w_pipe), .i (w_count), .i (w_halved_n), .b (w_halved_is), .i (w_last_n), .b (w_last_is), .b (w_runs), .i (w_due), .b (w_rtt_any), .i (w_rtt_smooth), .i (w_rtt_spread), .i (w_rtt_rto), .b (false)])
    (one (minI now 4611686018427387904) fun x4129 =>
     br (decide (x4129 < w_due))
       (some [.i (w_cwnd), .i (w_slow), .i (w_pipe), .i (w_count), .i (w_halved_n), .b (w_halved_is), .i (w_last_n), .b (w_last_is), .b (w_runs), .i (w_due), .b (w_rtt_any), .i (w_rtt_smooth), .i (w_rtt_spread), .i (w_rtt_rto), .b (false)])
       (out (win_halve w_cwnd w_slow w_pipe w_count w_halved_n w_halved_is w_last_n w_last_is w_runs w_due w_rtt_any w_rtt_smooth w_rtt_spread w_rtt_rto) fun r4130 =>
        un_i r4130 fun x4131 r4132 =>
        un_i r4132 fun x4133 r4134 =>
        un_i r4134 fun x4135 r4136 =>
        un_i r4136 fun x4137 r4138 =>
        un_i r4138 fun x4139 r4140 =>
        un_b r4140 fun x4141 r4142 =>
        un_i r4142 fun x4143 r4144 =>
        un_b r4144 fun x4145 r4146 =>
        un_b r4146 fun x4147 r4148 =>
        un_i r4148 fun x4149 r4150 =>
        un_b r4150 fun x4151 r4152 =>
        un_i r4152 fun x4153 r4154 =>
        un_i r4154 fun x4155 r4156 =>
        un_i r4156 fun x4157 r4158 =>
        un_nil r4158 <|
        out (rtt_Back x4151 x4153 x4155 x4157) fun r4159 =>
        un_b r4159 fun x4160 r4161 =>
        un_i r4161 fun x4162 r4163 =>
        un_i r4163 fun x4164 r4165 =>
        un_i r4165 fun x4166 r4167 =>
        un_nil r4167 <|
        some [.i (1), .i (x4133), .i (0), .i (x4137), .i (x4139), .b (x4141), .i (x4143), .b (x4145), .b (false), .i (x4149), .b (x4160), .i (x4162), .i (x4164), .i (x4166), .b (true)]))
def win_Cwnd (w_cwnd : Int) (w_slow : Int) (w_pipe : Int) (w_count : Int) (w_halved_n : Int) (w_halved_is : Bool) (w_last_n : Int) (w_last_is : Bool) (w_runs : Bool) (w_due : Int) (w_rtt_any : Bool) (w_rtt_smooth : Int) (w_rtt_spread : Int) (w_rtt_rto : Int) : Option (List Leaf) :=
  some [.i (w_cwnd)]
def win_Slow (w_cwnd : Int) (w_slow : Int) (w_pipe : Int) (w_count : Int) (w_halved_n : Int) (w_halved_is : Bool) (w_last_n : Int) (w_last_is : Bool) (w_runs : Bool) (w_due : Int) (w_rtt_any : Bool) (w_rtt_smooth : Int) (w_rtt_spread : Int) (w_rtt_rto : Int) : Option (List Leaf) :=
  some [.i (w_slow)]
def win_Pipe (w_cwnd : Int) (w_slow : Int) (w_pipe : Int) (w_count : Int) (w_halved_n : Int) (w_halved_is : Bool) (w_last_n : Int) (w_last_is : Bool) (w_runs : Bool) (w_due : Int) (w_rtt_any : Bool) (w_rtt_smooth : Int) (w_rtt_spread : Int) (w_rtt_rto : Int) : Option (List Leaf) :=
  some [.i (w_pipe)]
end Go.Sx.T

