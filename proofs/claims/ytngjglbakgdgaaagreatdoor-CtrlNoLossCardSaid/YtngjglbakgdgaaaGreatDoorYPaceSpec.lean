import Derived.Test.YtngjglbakgdgaaaGreatDoorYFixSpec
set_option linter.all false
namespace Go.Sx.T
open Go Go.Sx
def pace_New (s : Int) (tick : Int) : Option (List Leaf) :=
  br (decide (s < 1))
    (none)
    (br (decide (s > 1400))
       (none)
       (br (decide (tick < 0))
          (none)
          (br (decide (tick > 1000000))
             (none)
             (one (wrapI .u64 s) fun x434 =>
              one (wrapI .u64 tick) fun x435 =>
              some [.i (x434), .i (x435), .i (0), .i (0), .i (0)]))))
def pace_Cap (p_s : Int) (p_tick : Int) (p_has : Int) (p_rate : Int) (p_now : Int) : Option (List Leaf) :=
  one (mulI .u64 64000000 p_s) fun x436 =>
  out (fix_Mul p_rate p_tick) fun r437 =>
  un_i r437 fun x438 r439 =>
  un_nil r439 <|
  one (maxI x436 x438) fun x440 =>
  some [.i (x440)]
def pace_gets (p_s : Int) (p_tick : Int) (p_has : Int) (p_rate : Int) (p_now : Int) (now : Int) : Option (List Leaf) :=
  one (minI now 4611686018427387904) fun x441 =>
  br (decide (x441 ≤ p_now))
    (some [.i (p_s), .i (p_tick), .i (p_has), .i (p_rate), .i (p_now)])
    (one (wrapI .u64 x441) fun x442 =>
     one (wrapI .u64 p_now) fun x443 =>
     one (subI .u64 x442 x443) fun x444 =>
     out (fix_Mul p_rate x444) fun r445 =>
     un_i r445 fun x446 r447 =>
     un_nil r447 <|
     out (fix_Add p_has x446) fun r448 =>
     un_i r448 fun x449 r450 =>
     un_nil r450 <|
     out (pace_Cap p_s p_tick p_has p_rate p_now) fun r451 =>
     un_i r451 fun x452 r453 =>
     un_nil r453 <|
     one (minI x449 x452) fun x454 =>
     some [.i (p_s), .i (p_tick), .i (x454), .i (p_rate), .i (x441)])
def pace_Rate (p_s : Int) (p_tick : Int) (p_has : Int) (p_rate : Int) (p_now : Int) (now : Int) (x : Int) : Option (List Leaf) :=
  out (pace_gets p_s p_tick p_has p_rate p_now now) fun r455 =>
  un_i r455 fun x456 r457 =>
  un_i r457 fun x458 r459 =>
  un_i r459 fun x460 r461 =>
  un_i r461 fun x462 r463 =>
  un_i r463 fun x464 r465 =>
  un_nil r465 <|
  out (pace_Cap x456 x458 x460 x x464) fun r466 =>
  un_i r466 fun x467 r468 =>
  un_nil r468 <|
  one (minI x460 x467) fun x469 =>
  some [.i (x456), .i (x458), .i (x469), .i (x), .i (x464)]
def pace_May (p_s : Int) (p_tick : Int) (p_has : Int) (p_rate : Int) (p_now : Int) (now : Int) (n2 : Int) : Option (List Leaf) :=
  out (pace_gets p_s p_tick p_has p_rate p_now now) fun r470 =>
  un_i r470 fun x471 r472 =>
  un_i r472 fun x473 r474 =>
  un_i r474 fun x475 r476 =>
  un_i r476 fun x477 r478 =>
  un_i r478 fun x479 r480 =>
  un_nil r480 <|
  br (decide (n2 ≥ 0))
    (br (decide (n2 ≤ 65535))
       (one (wrapI .u64 n2) fun x481 =>
        one (mulI .u64 64000000 x481) fun x482 =>
        some [.i (x471), .i (x473), .i (x475), .i (x477), .i (x479), .b (decide (x475 ≥ x482))])
       (some [.i (x471), .i (x473), .i (x475), .i (x477), .i (x479), .b (false)]))
    (some [.i (x471), .i (x473), .i (x475), .i (x477), .i (x479), .b (false)])
def pace_Take (p_s : Int) (p_tick : Int) (p_has : Int) (p_rate : Int) (p_now : Int) (now : Int) (n2 : Int) : Option (List Leaf) :=
  out (pace_May p_s p_tick p_has p_rate p_now now n2) fun r483 =>
  un_i r483 fun x484 r485 =>
  un_i r485 fun x486 r487 =>
  un_i r487 fun x488 r489 =>
  un_i r489 fun x490 r491 =>
  un_i r491 fun x492 r493 =>
  un_b r493 fun x494 r495 =>
  un_nil r495 <|
  br (!x494)
    (some [.i (x484), .i (x486), .i (x488), .i (x490), .i (x492), .b (false)])
    (one (wrapI .u64 n2) fun x496 =>
     one (mulI .u64 64000000 x496) fun x497 =>
     one (subI .u64 x488 x497) fun x498 =>
     some [.i (x484), .i (x486), .i (x498), .i (x490), .i (x492), .b (true)])
end Go.Sx.T

