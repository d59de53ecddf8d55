import Derived.Test.YtllgbgponmkijaaGreatDoorYValSpec
set_option linter.all false
namespace Go.Sx.T
open Go Go.Sx
def ValidShort (v_State : Int) (v_Gss : Int) (v_Gsr : Int) (v_Gar : Int) (v_Iss : Int) (v_Isr : Int) (v_Mine : Int) (v_Theirs : Int) (t : Int) (d : Int) (e : Int) : Option (List Leaf) :=
  out (ref_Seq v_Gsr) fun r2509 =>
  un_i r2509 fun x2510 r2511 =>
  un_nil r2511 <|
  out (ref_Seq v_Gss) fun r2512 =>
  un_i r2512 fun x2513 r2514 =>
  un_nil r2514 <|
  out (ref_Seq v_Gar) fun r2515 =>
  un_i r2515 fun x2516 r2517 =>
  un_nil r2517 <|
  out (ref_Seq v_Iss) fun r2518 =>
  un_i r2518 fun x2519 r2520 =>
  un_nil r2520 <|
  out (ref_Seq v_Isr) fun r2521 =>
  un_i r2521 fun x2522 r2523 =>
  un_nil r2523 <|
  one (remI .i64 t 3) fun x2524 =>
  one (addI .i64 x2524 3) fun x2525 =>
  one (remI .i64 x2525 3) fun x2526 =>
  chk (decide (0 ≤ x2526 ∧ x2526 < (↑3 : Int))) <|
  chk (decide (0 ≤ x2526 ∧ x2526 < (↑3 : Int))) <|
  one (remI .i64 d 100000) fun x2527 =>
  one (remI .i64 e 100000) fun x2528 =>
  out (ref_Step x2510 x2527) fun r2529 =>
  un_i r2529 fun x2530 r2531 =>
  un_nil r2531 <|
  out (ref_Step x2513 x2528) fun r2532 =>
  un_i r2532 fun x2533 r2534 =>
  un_nil r2534 <|
  one (remI .u64 x2530 16777216) fun x2535 =>
  one (remI .u64 x2533 16777216) fun x2536 =>
  br (List.getD [(2 : Int), (3 : Int), (4 : Int)] (Int.toNat x2526) (0 : Int) == (2 : Int))
    (out (valid_Long (5 : Int) x2513 x2510 x2516 x2519 x2522 v_Mine v_Theirs (0 : Int) (0 : Int) (0 : Int) (0 : Int) (0 : Int) (0 : Int) (List.getD [(2 : Int), (3 : Int), (4 : Int)] (Int.toNat x2526) (0 : Int)) false x2535 (0 : Int) (0 : Int) (0 : Int) (0 : Int) (0 : Int) (0 : Int) { data := #[(120 : UInt8)] }) fun r2537 =>
     un_i r2537 fun x2538 r2539 =>
     un_i r2539 fun x2540 r2541 =>
     un_i r2541 fun x2542 r2543 =>
     un_i r2543 fun x2544 r2545 =>
     un_i r2545 fun x2546 r2547 =>
     un_i r2547 fun x2548 r2549 =>
     un_i r2549 fun x2550 r2551 =>
     un_b r2551 fun x2552 r2553 =>
     un_i r2553 fun x2554 r2555 =>
     un_i r2555 fun x2556 r2557 =>
     un_i r2557 fun x2558 r2559 =>
     un_i r2559 fun x2560 r2561 =>
     un_i r2561 fun x2562 r2563 =>
     un_i r2563 fun x2564 r2565 =>
     un_i r2565 fun x2566 r2567 =>
     un_s r2567 fun x2568 r2569 =>
     un_nil r2569 <|
     none)
    (out (valid_Long (5 : Int) x2513 x2510 x2516 x2519 x2522 v_Mine v_Theirs (0 : Int) (0 : Int) (0 : Int) (0 : Int) (0 : Int) (0 : Int) (List.getD [(2 : Int), (3 : Int), (4 : Int)] (Int.toNat x2526) (0 : Int)) false x2535 x2536 (0 : Int) (0 : Int) (0 : Int) (0 : Int) (0 : Int) { data := #[(120 : UInt8)] }) fun r2570 =>
     un_i r2570 fun x2571 r2572 =>
     un_i r2572 fun x2573 r2574 =>
     un_i r2574 fun x2575 r2576 =>
     un_i r2576 fun x2577 r2578 =>
     un_i r2578 fun x2579 r2580 =>
     un_i r2580 fun x2581 r2582 =>
     un_i r2582 fun x2583 r2584 =>
     un_b r2584 fun x2585 r2586 =>
     un_i r2586 fun x2587 r2588 =>
     un_i r2588 fun x2589 r2590 =>
     un_i r2590 fun x2591 r2592 =>
     un_i r2592 fun x2593 r2594 =>
     un_i r2594 fun x2595 r2596 =>
     un_i r2596 fun x2597 r2598 =>
     un_i r2598 fun x2599 r2600 =>
     un_s r2600 fun x2601 r2602 =>
     un_nil r2602 <|
     none)
end Go.Sx.T

