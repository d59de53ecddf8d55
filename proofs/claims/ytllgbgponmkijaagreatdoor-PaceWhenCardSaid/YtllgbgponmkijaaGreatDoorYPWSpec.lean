import Derived.Test.YtllgbgponmkijaaGreatDoorYPaceSpec
set_option linter.all false
namespace Go.Sx.T
open Go Go.Sx
def PaceWhen (s : Int) (n2 : Int) (x : Int) (at2 : Int) : Option (List Leaf) :=
  one (remI .i64 s 1400) fun x493 =>
  one (addI .i64 x493 1400) fun x494 =>
  one (remI .i64 x494 1400) fun x495 =>
  one (addI .i64 1 x495) fun x496 =>
  one (remI .i64 n2 1500) fun x497 =>
  one (addI .i64 x497 1500) fun x498 =>
  one (remI .i64 x498 1500) fun x499 =>
  one (remI .u64 x 100000000) fun x500 =>
  one (minI at2 1099511627776) fun x501 =>
  one (maxI 0 x501) fun x502 =>
  out (pace_New x496 0) fun r503 =>
  un_i r503 fun x504 r505 =>
  un_i r505 fun x506 r507 =>
  un_i r507 fun x508 r509 =>
  un_i r509 fun x510 r511 =>
  un_i r511 fun x512 r513 =>
  un_nil r513 <|
  out (pace_Rate x504 x506 x508 x510 x512 x502 x500) fun r514 =>
  un_i r514 fun x515 r516 =>
  un_i r516 fun x517 r518 =>
  un_i r518 fun x519 r520 =>
  un_i r520 fun x521 r522 =>
  un_i r522 fun x523 r524 =>
  un_nil r524 <|
  out (pace_When x515 x517 x519 x521 x523 x499) fun r525 =>
  un_i r525 fun x526 r527 =>
  un_nil r527 <|
  br (decide (x499 > x496))
    (some [.b (x526 == 4611686018427387904)])
    (br (x500 == 0)
       (br (decide (x499 > 0))
          (some [.b (x526 == 4611686018427387904)])
          (br (x499 == 0)
             (br (x526 == x502)
                (out (pace_Take x515 x517 x519 x521 x523 x502 0) fun r528 =>
                 un_i r528 fun x529 r530 =>
                 un_i r530 fun x531 r532 =>
                 un_i r532 fun x533 r534 =>
                 un_i r534 fun x535 r536 =>
                 un_i r536 fun x537 r538 =>
                 un_b r538 fun x539 r540 =>
                 un_nil r540 <|
                 some [.b (x539)])
                (some [.b (false)]))
             (out (pace_New x496 0) fun r541 =>
              un_i r541 fun x542 r543 =>
              un_i r543 fun x544 r545 =>
              un_i r545 fun x546 r547 =>
              un_i r547 fun x548 r549 =>
              un_i r549 fun x550 r551 =>
              un_nil r551 <|
              out (pace_Rate x542 x544 x546 x548 x550 x502 x500) fun r552 =>
              un_i r552 fun x553 r554 =>
              un_i r554 fun x555 r556 =>
              un_i r556 fun x557 r558 =>
              un_i r558 fun x559 r560 =>
              un_i r560 fun x561 r562 =>
              un_nil r562 <|
              br (decide (x526 > x502))
                (br (decide (x526 < 4611686018427387904))
                   (out (pace_May x515 x517 x519 x521 x523 x526 x499) fun r563 =>
                    un_i r563 fun x564 r565 =>
                    un_i r565 fun x566 r567 =>
                    un_i r567 fun x568 r569 =>
                    un_i r569 fun x570 r571 =>
                    un_i r571 fun x572 r573 =>
                    un_b r573 fun x574 r575 =>
                    un_nil r575 <|
                    br (x574)
                      (one (subI .i64 x526 1) fun x576 =>
                       out (pace_May x553 x555 x557 x559 x561 x576 x499) fun r577 =>
                       un_i r577 fun x578 r579 =>
                       un_i r579 fun x580 r581 =>
                       un_i r581 fun x582 r583 =>
                       un_i r583 fun x584 r585 =>
                       un_i r585 fun x586 r587 =>
                       un_b r587 fun x588 r589 =>
                       un_nil r589 <|
                       some [.b (!x588)])
                      (some [.b (false)]))
                   (some [.b (false)]))
                (some [.b (false)]))))
       (br (x499 == 0)
          (br (x526 == x502)
             (out (pace_Take x515 x517 x519 x521 x523 x502 0) fun r590 =>
              un_i r590 fun x591 r592 =>
              un_i r592 fun x593 r594 =>
              un_i r594 fun x595 r596 =>
              un_i r596 fun x597 r598 =>
              un_i r598 fun x599 r600 =>
              un_b r600 fun x601 r602 =>
              un_nil r602 <|
              some [.b (x601)])
             (some [.b (false)]))
          (out (pace_New x496 0) fun r603 =>
           un_i r603 fun x604 r605 =>
           un_i r605 fun x606 r607 =>
           un_i r607 fun x608 r609 =>
           un_i r609 fun x610 r611 =>
           un_i r611 fun x612 r613 =>
           un_nil r613 <|
           out (pace_Rate x604 x606 x608 x610 x612 x502 x500) fun r614 =>
           un_i r614 fun x615 r616 =>
           un_i r616 fun x617 r618 =>
           un_i r618 fun x619 r620 =>
           un_i r620 fun x621 r622 =>
           un_i r622 fun x623 r624 =>
           un_nil r624 <|
           br (decide (x526 > x502))
             (br (decide (x526 < 4611686018427387904))
                (out (pace_May x515 x517 x519 x521 x523 x526 x499) fun r625 =>
                 un_i r625 fun x626 r627 =>
                 un_i r627 fun x628 r629 =>
                 un_i r629 fun x630 r631 =>
                 un_i r631 fun x632 r633 =>
                 un_i r633 fun x634 r635 =>
                 un_b r635 fun x636 r637 =>
                 un_nil r637 <|
                 br (x636)
                   (one (subI .i64 x526 1) fun x638 =>
                    out (pace_May x615 x617 x619 x621 x623 x638 x499) fun r639 =>
                    un_i r639 fun x640 r641 =>
                    un_i r641 fun x642 r643 =>
                    un_i r643 fun x644 r645 =>
                    un_i r645 fun x646 r647 =>
                    un_i r647 fun x648 r649 =>
                    un_b r649 fun x650 r651 =>
                    un_nil r651 <|
                    some [.b (!x650)])
                   (some [.b (false)]))
                (some [.b (false)]))
             (some [.b (false)]))))
end Go.Sx.T

