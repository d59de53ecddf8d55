import Derived.Test.YtllgbgponmkijaaGreatDoorYValSpec
import Derived.Test.YtllgbgponmkijaaGreatDoorL6
set_option linter.all false
namespace Go.Sx.T
open Go Go.Sx
def ValidShort (v_State : Int) (v_Gss : Int) (v_Gsr : Int) (v_Gar : Int) (v_Iss : Int) (v_Isr : Int) (v_Mine : Int) (v_Theirs : Int) (t : Int) (d : Int) (e : Int) : Option (List Leaf) :=
  out (ref_Seq v_Gsr) fun r2509 =>
  un_i r2509 fun x2510 r2511 =>
  un_nil r2511 <|
  out (ref_Seq v_Gss) fun r2512 =>
  un_i r2512 fun x2513 r2514 =>
  un_nil r2514 <|
  out (ref_Seq v_Gar) fun r2515 =>
  un_i r2515 fun x2516 r2517 =>
  un_nil r2517 <|
  out (ref_Seq v_Iss) fun r2518 =>
  un_i r2518 fun x2519 r2520 =>
  un_nil r2520 <|
  out (ref_Seq v_Isr) fun r2521 =>
  un_i r2521 fun x2522 r2523 =>
  un_nil r2523 <|
  one (remI .i64 t 3) fun x2524 =>
  one (addI .i64 x2524 3) fun x2525 =>
  one (remI .i64 x2525 3) fun x2526 =>
  chk (decide (0 ≤ x2526 ∧ x2526 < (↑3 : Int))) <|
  chk (decide (0 ≤ x2526 ∧ x2526 < (↑3 : Int))) <|
  one (remI .i64 d 100000) fun x2527 =>
  one (remI .i64 e 100000) fun x2528 =>
  out (ref_Step x2510 x2527) fun r2529 =>
  un_i r2529 fun x2530 r2531 =>
  un_nil r2531 <|
  out (ref_Step x2513 x2528) fun r2532 =>
  un_i r2532 fun x2533 r2534 =>
  un_nil r2534 <|
  one (remI .u64 x2530 16777216) fun x2535 =>
  one (remI .u64 x2533 16777216) fun x2536 =>
  br (List.getD [(2 : Int), (3 : Int), (4 : Int)] (Int.toNat x2526) (0 : Int) == (2 : Int))
    (out (valid_Long (5 : Int) x2513 x2510 x2516 x2519 x2522 v_Mine v_Theirs (0 : Int) (0 : Int) (0 : Int) (0 : Int) (0 : Int) (0 : Int) (List.getD [(2 : Int), (3 : Int), (4 : Int)] (Int.toNat x2526) (0 : Int)) false x2535 (0 : Int) (0 : Int) (0 : Int) (0 : Int) (0 : Int) (0 : Int) { data := #[(120 : UInt8)] }) fun r2537 =>
     un_i r2537 fun x2538 r2539 =>
     un_i r2539 fun x2540 r2541 =>
     un_i r2541 fun x2542 r2543 =>
     un_i r2543 fun x2544 r2545 =>
     un_i r2545 fun x2546 r2547 =>
     un_i r2547 fun x2548 r2549 =>
     un_i r2549 fun x2550 r2551 =>
     un_b r2551 fun x2552 r2553 =>
     un_i r2553 fun x2554 r2555 =>
     un_i r2555 fun x2556 r2557 =>
     un_i r2557 fun x2558 r2559 =>
     un_i r2559 fun x2560 r2561 =>
     un_i r2561 fun x2562 r2563 =>
     un_i r2563 fun x2564 r2565 =>
     un_i r2565 fun x2566 r2567 =>
     un_s r2567 fun x2568 r2569 =>
     un_nil r2569 <|
     br (eqP [Go.Value.int .i64 x2538, Go.Value.int .i64 x2540, Go.Value.int .i64 x2542, Go.Value.int .i64 x2544, Go.Value.int .i64 x2546, Go.Value.int .i64 x2548, Go.Value.int .i64 x2550, Go.Value.bool x2552, Go.Value.int .u64 x2554, Go.Value.int .u64 x2556, Go.Value.int .u32 x2558, Go.Value.int .i64 x2560, Go.Value.int .u8 x2562, Go.Value.int .u8 x2564, Go.Value.int .u8 x2566] [Go.Value.int .i64 (0 : Int), Go.Value.int .i64 (0 : Int), Go.Value.int .i64 (0 : Int), Go.Value.int .i64 (0 : Int), Go.Value.int .i64 (0 : Int), Go.Value.int .i64 (0 : Int), Go.Value.int .i64 (List.getD [(2 : Int), (3 : Int), (4 : Int)] (Int.toNat (offAdd Option.none x2526)) (0 : Int)), Go.Value.bool true, Go.Value.int .u64 x2530, Go.Value.int .u64 (0 : Int), Go.Value.int .u32 (0 : Int), Go.Value.int .i64 (0 : Int), Go.Value.int .u8 (0 : Int), Go.Value.int .u8 (0 : Int), Go.Value.int .u8 (0 : Int)])
       (br (x2568 == { data := #[(120 : UInt8)] })
          (out (valid_Check 5 x2513 x2510 x2516 x2519 x2522 v_Mine v_Theirs x2538 x2540 x2542 x2544 x2546 x2548 x2550 x2552 x2554 x2556 x2558 x2560 x2562 x2564 x2566 x2568) fun r2570 =>
           un_i r2570 fun x2571 r2572 =>
           un_nil r2572 <|
           out (valid_Check (5 : Int) x2513 x2510 x2516 x2519 x2522 v_Mine v_Theirs (0 : Int) (0 : Int) (0 : Int) (0 : Int) (0 : Int) (0 : Int) (List.getD [(2 : Int), (3 : Int), (4 : Int)] (Int.toNat x2526) (0 : Int)) true x2530 (0 : Int) (0 : Int) (0 : Int) (0 : Int) (0 : Int) (0 : Int) { data := #[(120 : UInt8)] }) fun r2573 =>
           un_i r2573 fun x2574 r2575 =>
           un_nil r2575 <|
           some [.b (x2571 == x2574)])
          (some [.b (false)]))
       (some [.b (false)]))
    (out (valid_Long (5 : Int) x2513 x2510 x2516 x2519 x2522 v_Mine v_Theirs (0 : Int) (0 : Int) (0 : Int) (0 : Int) (0 : Int) (0 : Int) (List.getD [(2 : Int), (3 : Int), (4 : Int)] (Int.toNat x2526) (0 : Int)) false x2535 x2536 (0 : Int) (0 : Int) (0 : Int) (0 : Int) (0 : Int) { data := #[(120 : UInt8)] }) fun r2576 =>
     un_i r2576 fun x2577 r2578 =>
     un_i r2578 fun x2579 r2580 =>
     un_i r2580 fun x2581 r2582 =>
     un_i r2582 fun x2583 r2584 =>
     un_i r2584 fun x2585 r2586 =>
     un_i r2586 fun x2587 r2588 =>
     un_i r2588 fun x2589 r2590 =>
     un_b r2590 fun x2591 r2592 =>
     un_i r2592 fun x2593 r2594 =>
     un_i r2594 fun x2595 r2596 =>
     un_i r2596 fun x2597 r2598 =>
     un_i r2598 fun x2599 r2600 =>
     un_i r2600 fun x2601 r2602 =>
     un_i r2602 fun x2603 r2604 =>
     un_i r2604 fun x2605 r2606 =>
     un_s r2606 fun x2607 r2608 =>
     un_nil r2608 <|
     br (eqP [Go.Value.int .i64 x2577, Go.Value.int .i64 x2579, Go.Value.int .i64 x2581, Go.Value.int .i64 x2583, Go.Value.int .i64 x2585, Go.Value.int .i64 x2587, Go.Value.int .i64 x2589, Go.Value.bool x2591, Go.Value.int .u64 x2593, Go.Value.int .u64 x2595, Go.Value.int .u32 x2597, Go.Value.int .i64 x2599, Go.Value.int .u8 x2601, Go.Value.int .u8 x2603, Go.Value.int .u8 x2605] [Go.Value.int .i64 (0 : Int), Go.Value.int .i64 (0 : Int), Go.Value.int .i64 (0 : Int), Go.Value.int .i64 (0 : Int), Go.Value.int .i64 (0 : Int), Go.Value.int .i64 (0 : Int), Go.Value.int .i64 (List.getD [(2 : Int), (3 : Int), (4 : Int)] (Int.toNat (offAdd Option.none x2526)) (0 : Int)), Go.Value.bool true, Go.Value.int .u64 x2530, Go.Value.int .u64 x2533, Go.Value.int .u32 (0 : Int), Go.Value.int .i64 (0 : Int), Go.Value.int .u8 (0 : Int), Go.Value.int .u8 (0 : Int), Go.Value.int .u8 (0 : Int)])
       (br (x2607 == { data := #[(120 : UInt8)] })
          (out (valid_Check 5 x2513 x2510 x2516 x2519 x2522 v_Mine v_Theirs x2577 x2579 x2581 x2583 x2585 x2587 x2589 x2591 x2593 x2595 x2597 x2599 x2601 x2603 x2605 x2607) fun r2609 =>
           un_i r2609 fun x2610 r2611 =>
           un_nil r2611 <|
           out (valid_Check (5 : Int) x2513 x2510 x2516 x2519 x2522 v_Mine v_Theirs (0 : Int) (0 : Int) (0 : Int) (0 : Int) (0 : Int) (0 : Int) (List.getD [(2 : Int), (3 : Int), (4 : Int)] (Int.toNat x2526) (0 : Int)) true x2530 x2533 (0 : Int) (0 : Int) (0 : Int) (0 : Int) (0 : Int) { data := #[(120 : UInt8)] }) fun r2612 =>
           un_i r2612 fun x2613 r2614 =>
           un_nil r2614 <|
           some [.b (x2610 == x2613)])
          (some [.b (false)]))
       (some [.b (false)]))
end Go.Sx.T

