import Derived.Test.YtllgbgponmkijaaGreatDoorYValSpec
set_option linter.all false
namespace Go.Sx.T
open Go Go.Sx
def ValidNext (v_State : Int) (v_Gss : Int) (v_Gsr : Int) (v_Gar : Int) (v_Iss : Int) (v_Isr : Int) (v_Mine : Int) (v_Theirs : Int) (t : Int) (far : Int) : Option (List Leaf) :=
  out (ref_Seq v_Gsr) fun r2439 =>
  un_i r2439 fun x2440 r2441 =>
  un_nil r2441 <|
  out (ref_Seq v_Gss) fun r2442 =>
  un_i r2442 fun x2443 r2444 =>
  un_nil r2444 <|
  one (remI .i64 t 8) fun x2445 =>
  one (addI .i64 x2445 8) fun x2446 =>
  one (remI .i64 x2446 8) fun x2447 =>
  chk (decide (0 ≤ x2447 ∧ x2447 < (↑8 : Int))) <|
  chk (decide (0 ≤ x2447 ∧ x2447 < (↑8 : Int))) <|
  out (ref_Step x2440 1) fun r2448 =>
  un_i r2448 fun x2449 r2450 =>
  un_nil r2450 <|
  br (List.getD [(2 : Int), (3 : Int), (4 : Int), (5 : Int), (6 : Int), (7 : Int), (8 : Int), (9 : Int)] (Int.toNat x2447) (0 : Int) == (2 : Int))
    (out (valid_Check (5 : Int) x2443 x2440 x2443 x2443 x2440 v_Mine v_Theirs (0 : Int) (0 : Int) (0 : Int) (0 : Int) (0 : Int) (0 : Int) (List.getD [(2 : Int), (3 : Int), (4 : Int), (5 : Int), (6 : Int), (7 : Int), (8 : Int), (9 : Int)] (Int.toNat x2447) (0 : Int)) true x2449 (0 : Int) (0 : Int) (0 : Int) (0 : Int) (0 : Int) (0 : Int) ByteArray.empty) fun r2451 =>
     un_i r2451 fun x2452 r2453 =>
     un_nil r2453 <|
     br (x2452 != 1)
       (some [.b (false)])
       (br (decide (List.getD [(2 : Int), (3 : Int), (4 : Int), (5 : Int), (6 : Int), (7 : Int), (8 : Int), (9 : Int)] (Int.toNat x2447) (0 : Int) ≥ (8 : Int)))
          (one (remI .u64 far 1099511627776) fun x2454 =>
           one (wrapI .i64 x2454) fun x2455 =>
           one (subI .i64 (-1) x2455) fun x2456 =>
           out (ref_Step x2440 x2456) fun r2457 =>
           un_i r2457 fun x2458 r2459 =>
           un_nil r2459 <|
           out (valid_Check (5 : Int) x2443 x2440 x2443 x2443 x2440 v_Mine v_Theirs (0 : Int) (0 : Int) (0 : Int) (0 : Int) (0 : Int) (0 : Int) (List.getD [(2 : Int), (3 : Int), (4 : Int), (5 : Int), (6 : Int), (7 : Int), (8 : Int), (9 : Int)] (Int.toNat x2447) (0 : Int)) true x2458 (0 : Int) (0 : Int) (0 : Int) (0 : Int) (0 : Int) (0 : Int) ByteArray.empty) fun r2460 =>
           un_i r2460 fun x2461 r2462 =>
           un_nil r2462 <|
           some [.b (x2461 == 3)])
          (one (remI .u64 far 1099511627776) fun x2463 =>
           one (wrapI .i64 x2463) fun x2464 =>
           one (addI .i64 800 x2464) fun x2465 =>
           out (ref_Step x2440 x2465) fun r2466 =>
           un_i r2466 fun x2467 r2468 =>
           un_nil r2468 <|
           out (valid_Answer (5 : Int) x2443 x2440 x2443 x2443 x2440 v_Mine v_Theirs (0 : Int) (0 : Int) (0 : Int) (0 : Int) (0 : Int) (0 : Int) (List.getD [(2 : Int), (3 : Int), (4 : Int), (5 : Int), (6 : Int), (7 : Int), (8 : Int), (9 : Int)] (Int.toNat x2447) (0 : Int)) true x2467 (0 : Int) (0 : Int) (0 : Int) (0 : Int) (0 : Int) (0 : Int) ByteArray.empty) fun r2469 =>
           un_i r2469 fun x2470 r2471 =>
           un_b r2471 fun x2472 r2473 =>
           un_nil r2473 <|
           br (List.getD [(2 : Int), (3 : Int), (4 : Int), (5 : Int), (6 : Int), (7 : Int), (8 : Int), (9 : Int)] (Int.toNat x2447) (0 : Int) == (7 : Int))
             (out (valid_Check (5 : Int) x2443 x2440 x2443 x2443 x2440 v_Mine v_Theirs (0 : Int) (0 : Int) (0 : Int) (0 : Int) (0 : Int) (0 : Int) (List.getD [(2 : Int), (3 : Int), (4 : Int), (5 : Int), (6 : Int), (7 : Int), (8 : Int), (9 : Int)] (Int.toNat x2447) (0 : Int)) true x2467 (0 : Int) (0 : Int) (0 : Int) (0 : Int) (0 : Int) (0 : Int) ByteArray.empty) fun r2474 =>
              un_i r2474 fun x2475 r2476 =>
              un_nil r2476 <|
              br (x2475 == 2)
                (br (x2472)
                   (some [.b (x2470 == x2440)])
                   (some [.b (false)]))
                (some [.b (false)]))
             (out (valid_Check (5 : Int) x2443 x2440 x2443 x2443 x2440 v_Mine v_Theirs (0 : Int) (0 : Int) (0 : Int) (0 : Int) (0 : Int) (0 : Int) (List.getD [(2 : Int), (3 : Int), (4 : Int), (5 : Int), (6 : Int), (7 : Int), (8 : Int), (9 : Int)] (Int.toNat x2447) (0 : Int)) true x2467 (0 : Int) (0 : Int) (0 : Int) (0 : Int) (0 : Int) (0 : Int) ByteArray.empty) fun r2477 =>
              un_i r2477 fun x2478 r2479 =>
              un_nil r2479 <|
              br (x2478 == 2)
                (br (x2472)
                   (some [.b (x2470 == x2467)])
                   (some [.b (false)]))
                (some [.b (false)])))))
    (out (valid_Check (5 : Int) x2443 x2440 x2443 x2443 x2440 v_Mine v_Theirs (0 : Int) (0 : Int) (0 : Int) (0 : Int) (0 : Int) (0 : Int) (List.getD [(2 : Int), (3 : Int), (4 : Int), (5 : Int), (6 : Int), (7 : Int), (8 : Int), (9 : Int)] (Int.toNat x2447) (0 : Int)) true x2449 x2443 (0 : Int) (0 : Int) (0 : Int) (0 : Int) (0 : Int) ByteArray.empty) fun r2480 =>
     un_i r2480 fun x2481 r2482 =>
     un_nil r2482 <|
     br (x2481 != 1)
       (some [.b (false)])
       (br (decide (List.getD [(2 : Int), (3 : Int), (4 : Int), (5 : Int), (6 : Int), (7 : Int), (8 : Int), (9 : Int)] (Int.toNat x2447) (0 : Int) ≥ (8 : Int)))
          (one (remI .u64 far 1099511627776) fun x2483 =>
           one (wrapI .i64 x2483) fun x2484 =>
           one (subI .i64 (-1) x2484) fun x2485 =>
           out (ref_Step x2440 x2485) fun r2486 =>
           un_i r2486 fun x2487 r2488 =>
           un_nil r2488 <|
           out (valid_Check (5 : Int) x2443 x2440 x2443 x2443 x2440 v_Mine v_Theirs (0 : Int) (0 : Int) (0 : Int) (0 : Int) (0 : Int) (0 : Int) (List.getD [(2 : Int), (3 : Int), (4 : Int), (5 : Int), (6 : Int), (7 : Int), (8 : Int), (9 : Int)] (Int.toNat x2447) (0 : Int)) true x2487 x2443 (0 : Int) (0 : Int) (0 : Int) (0 : Int) (0 : Int) ByteArray.empty) fun r2489 =>
           un_i r2489 fun x2490 r2491 =>
           un_nil r2491 <|
           some [.b (x2490 == 3)])
          (one (remI .u64 far 1099511627776) fun x2492 =>
           one (wrapI .i64 x2492) fun x2493 =>
           one (addI .i64 800 x2493) fun x2494 =>
           out (ref_Step x2440 x2494) fun r2495 =>
           un_i r2495 fun x2496 r2497 =>
           un_nil r2497 <|
           out (valid_Answer (5 : Int) x2443 x2440 x2443 x2443 x2440 v_Mine v_Theirs (0 : Int) (0 : Int) (0 : Int) (0 : Int) (0 : Int) (0 : Int) (List.getD [(2 : Int), (3 : Int), (4 : Int), (5 : Int), (6 : Int), (7 : Int), (8 : Int), (9 : Int)] (Int.toNat x2447) (0 : Int)) true x2496 x2443 (0 : Int) (0 : Int) (0 : Int) (0 : Int) (0 : Int) ByteArray.empty) fun r2498 =>
           un_i r2498 fun x2499 r2500 =>
           un_b r2500 fun x2501 r2502 =>
           un_nil r2502 <|
           br (List.getD [(2 : Int), (3 : Int), (4 : Int), (5 : Int), (6 : Int), (7 : Int), (8 : Int), (9 : Int)] (Int.toNat x2447) (0 : Int) == (7 : Int))
             (out (valid_Check (5 : Int) x2443 x2440 x2443 x2443 x2440 v_Mine v_Theirs (0 : Int) (0 : Int) (0 : Int) (0 : Int) (0 : Int) (0 : Int) (List.getD [(2 : Int), (3 : Int), (4 : Int), (5 : Int), (6 : Int), (7 : Int), (8 : Int), (9 : Int)] (Int.toNat x2447) (0 : Int)) true x2496 x2443 (0 : Int) (0 : Int) (0 : Int) (0 : Int) (0 : Int) ByteArray.empty) fun r2503 =>
              un_i r2503 fun x2504 r2505 =>
              un_nil r2505 <|
              br (x2504 == 2)
                (br (x2501)
                   (some [.b (x2499 == x2440)])
                   (some [.b (false)]))
                (some [.b (false)]))
             (out (valid_Check (5 : Int) x2443 x2440 x2443 x2443 x2440 v_Mine v_Theirs (0 : Int) (0 : Int) (0 : Int) (0 : Int) (0 : Int) (0 : Int) (List.getD [(2 : Int), (3 : Int), (4 : Int), (5 : Int), (6 : Int), (7 : Int), (8 : Int), (9 : Int)] (Int.toNat x2447) (0 : Int)) true x2496 x2443 (0 : Int) (0 : Int) (0 : Int) (0 : Int) (0 : Int) ByteArray.empty) fun r2506 =>
              un_i r2506 fun x2507 r2508 =>
              un_nil r2508 <|
              br (x2507 == 2)
                (br (x2501)
                   (some [.b (x2499 == x2496)])
                   (some [.b (false)]))
                (some [.b (false)])))))
end Go.Sx.T

