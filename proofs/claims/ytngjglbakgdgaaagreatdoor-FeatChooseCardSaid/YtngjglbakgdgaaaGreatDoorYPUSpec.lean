import Derived.Test.YtngjglbakgdgaaaGreatDoorYPaceSpec
set_option linter.all false
namespace Go.Sx.T
open Go Go.Sx
def PaceFull (s : Int) (tick : Int) (x : Int) (d : Int) : Option (List Leaf) :=
  one (remI .i64 s 1400) fun x499 =>
  one (addI .i64 x499 1400) fun x500 =>
  one (remI .i64 x500 1400) fun x501 =>
  one (addI .i64 1 x501) fun x502 =>
  one (remI .i64 tick 100000) fun x503 =>
  one (addI .i64 x503 100000) fun x504 =>
  one (remI .i64 x504 100000) fun x505 =>
  one (remI .u64 x 1000000000) fun x506 =>
  one (addI .u64 1 x506) fun x507 =>
  out (pace_New x502 x505) fun r508 =>
  un_i r508 fun x509 r510 =>
  un_i r510 fun x511 r512 =>
  un_i r512 fun x513 r514 =>
  un_i r514 fun x515 r516 =>
  un_i r516 fun x517 r518 =>
  un_nil r518 <|
  out (pace_Rate x509 x511 x513 x515 x517 0 x507) fun r519 =>
  un_i r519 fun x520 r521 =>
  un_i r521 fun x522 r523 =>
  un_i r523 fun x524 r525 =>
  un_i r525 fun x526 r527 =>
  un_i r527 fun x528 r529 =>
  un_nil r529 <|
  out (pace_Cap x520 x522 x524 x526 x528) fun r530 =>
  un_i r530 fun x531 r532 =>
  un_nil r532 <|
  one (minI d 1125899906842624) fun x533 =>
  one (maxI 0 x533) fun x534 =>
  chk (decide (x507 ≠ 0)) <|
  one (quoI .u64 x531 x507) fun x535 =>
  one (wrapI .i64 x535) fun x536 =>
  one (addI .i64 x536 1) fun x537 =>
  one (addI .i64 x537 x534) fun x538 =>
  one (quoI .u64 x531 64000000) fun x539 =>
  one (minI x539 65535) fun x540 =>
  one (wrapI .i64 x540) fun x541 =>
  out (pace_May x520 x522 x524 x526 x528 x538 x541) fun r542 =>
  un_i r542 fun x543 r544 =>
  un_i r544 fun x545 r546 =>
  un_i r546 fun x547 r548 =>
  un_i r548 fun x549 r550 =>
  un_i r550 fun x551 r552 =>
  un_b r552 fun x553 r554 =>
  un_nil r554 <|
  br (!x553)
    (some [.b (false)])
    (one (quoI .u64 x531 64000000) fun x555 =>
     br (decide (x555 < 65535))
       (one (addI .i64 x541 1) fun x556 =>
        out (pace_May x543 x545 x547 x549 x551 x538 x556) fun r557 =>
        un_i r557 fun x558 r559 =>
        un_i r559 fun x560 r561 =>
        un_i r561 fun x562 r563 =>
        un_i r563 fun x564 r565 =>
        un_i r565 fun x566 r567 =>
        un_b r567 fun x568 r569 =>
        un_nil r569 <|
        br (x568)
          (some [.b (false)])
          (out (pace_Take x558 x560 x562 x564 x566 x538 x541) fun r570 =>
           un_i r570 fun x571 r572 =>
           un_i r572 fun x573 r574 =>
           un_i r574 fun x575 r576 =>
           un_i r576 fun x577 r578 =>
           un_i r578 fun x579 r580 =>
           un_b r580 fun x581 r582 =>
           un_nil r582 <|
           br (!x581)
             (some [.b (false)])
             (br (x541 == 0)
                (some [.b (true)])
                (out (pace_Take x571 x573 x575 x577 x579 x538 x541) fun r583 =>
                 un_i r583 fun x584 r585 =>
                 un_i r585 fun x586 r587 =>
                 un_i r587 fun x588 r589 =>
                 un_i r589 fun x590 r591 =>
                 un_i r591 fun x592 r593 =>
                 un_b r593 fun x594 r595 =>
                 un_nil r595 <|
                 br (!x594)
                   (some [.b (true)])
                   (one (quoI .u64 x531 64000000) fun x596 =>
                    some [.b (decide (x596 ≥ 131070))])))))
       (out (pace_Take x543 x545 x547 x549 x551 x538 x541) fun r597 =>
        un_i r597 fun x598 r599 =>
        un_i r599 fun x600 r601 =>
        un_i r601 fun x602 r603 =>
        un_i r603 fun x604 r605 =>
        un_i r605 fun x606 r607 =>
        un_b r607 fun x608 r609 =>
        un_nil r609 <|
        br (!x608)
          (some [.b (false)])
          (br (x541 == 0)
             (some [.b (true)])
             (out (pace_Take x598 x600 x602 x604 x606 x538 x541) fun r610 =>
              un_i r610 fun x611 r612 =>
              un_i r612 fun x613 r614 =>
              un_i r614 fun x615 r616 =>
              un_i r616 fun x617 r618 =>
              un_i r618 fun x619 r620 =>
              un_b r620 fun x621 r622 =>
              un_nil r622 <|
              br (!x621)
                (some [.b (true)])
                (one (quoI .u64 x531 64000000) fun x623 =>
                 some [.b (decide (x623 ≥ 131070))])))))
end Go.Sx.T

