/- What the functions compute, by program. -/
import Derived.Test.YtinkhffncpmnaaaGreatDoorYFixSpec
set_option linter.all false
namespace Go.Sx.T
open Go Go.Sx
def EqnAll (s : Int) (r : Int) (n2 : Int) : Option (List Leaf) :=
  out (eqn_F n2) fun r511 =>
  un_i r511 fun x512 r513 =>
  un_nil r513 <|
  out (ref_F n2) fun r514 =>
  un_i r514 fun x515 r516 =>
  un_nil r516 <|
  br (x512 == x515)
    (out (eqn_Rate s r n2) fun r517 =>
     un_i r517 fun x518 r519 =>
     un_nil r519 <|
     out (ref_Rate s r n2) fun r520 =>
     un_i r520 fun x521 r522 =>
     un_nil r522 <|
     some [.b (x518 == x521)])
    (some [.b (false)])
def EqnOrder (s : Int) (r : Int) (n2 : Int) (a : Int) (b : Int) (c : Int) : Option (List Leaf) :=
  out (eqn_Rate s r n2) fun r523 =>
  un_i r523 fun x524 r525 =>
  un_nil r525 <|
  one (maxI r b) fun x526 =>
  out (eqn_Rate s x526 n2) fun r527 =>
  un_i r527 fun x528 r529 =>
  un_nil r529 <|
  br (decide (x528 ≤ x524))
    (one (maxI n2 c) fun x530 =>
     out (eqn_Rate s r x530) fun r531 =>
     un_i r531 fun x532 r533 =>
     un_nil r533 <|
     br (decide (x532 ≤ x524))
       (one (maxI s a) fun x534 =>
        out (eqn_Rate x534 r n2) fun r535 =>
        un_i r535 fun x536 r537 =>
        un_nil r537 <|
        br (decide (x536 ≥ x524))
          (one (maxI n2 c) fun x538 =>
           out (eqn_F x538) fun r539 =>
           un_i r539 fun x540 r541 =>
           un_nil r541 <|
           out (eqn_F n2) fun r542 =>
           un_i r542 fun x543 r544 =>
           un_nil r544 <|
           some [.b (decide (x540 ≥ x543))])
          (some [.b (false)]))
       (some [.b (false)]))
    (some [.b (false)])
def bracket (n2 : Int) : Option (List Leaf) :=
  out (ref_MulDiv n2 1073741824 3) fun r545 =>
  un_i r545 fun x546 r547 =>
  un_nil r547 <|
  out (ref_SqrtMul x546 8796093022208) fun r548 =>
  un_i r548 fun x549 r550 =>
  un_nil r550 <|
  one (mulI .u64 3 n2) fun x551 =>
  out (ref_SqrtMul x551 9223372036854775808) fun r552 =>
  un_i r552 fun x553 r554 =>
  un_nil r554 <|
  one (mulI .u64 x553 8) fun x555 =>
  one (mulI .u64 32 n2) fun x556 =>
  out (ref_MulDiv x556 n2 4294967296) fun r557 =>
  un_i r557 fun x558 r559 =>
  un_nil r559 <|
  one (addI .u64 4294967296 x558) fun x560 =>
  out (ref_MulDiv x555 n2 4294967296) fun r561 =>
  un_i r561 fun x562 r563 =>
  un_nil r563 <|
  out (ref_MulDiv x562 x560 4294967296) fun r564 =>
  un_i r564 fun x565 r566 =>
  un_nil r566 <|
  one (mulI .u64 12 x565) fun x567 =>
  one (addI .u64 x549 x567) fun x568 =>
  one (shrI .u64 x549 16) fun x569 =>
  one (addI .u64 x549 x569) fun x570 =>
  one (addI .u64 x570 64) fun x571 =>
  one (addI .u64 x555 16) fun x572 =>
  out (ref_MulDiv x572 n2 4294967296) fun r573 =>
  un_i r573 fun x574 r575 =>
  un_nil r575 <|
  one (addI .u64 x574 1) fun x576 =>
  one (addI .u64 x560 1) fun x577 =>
  out (ref_MulDiv x576 x577 4294967296) fun r578 =>
  un_i r578 fun x579 r580 =>
  un_nil r580 <|
  one (addI .u64 x579 1) fun x581 =>
  one (mulI .u64 12 x581) fun x582 =>
  one (addI .u64 x571 x582) fun x583 =>
  some [.i (x568), .i (x583)]
def EqnTrue (s : Int) (r : Int) (n2 : Int) : Option (List Leaf) :=
  one (remI .u64 s 65535) fun x584 =>
  one (addI .u64 1 x584) fun x585 =>
  one (remI .u64 r 4294967296) fun x586 =>
  one (addI .u64 1 x586) fun x587 =>
  one (remI .u64 n2 4294967296) fun x588 =>
  one (addI .u64 1 x588) fun x589 =>
  out (eqn_Rate x585 x587 x589) fun r590 =>
  un_i r590 fun x591 r592 =>
  un_nil r592 <|
  out (bracket x589) fun r593 =>
  un_i r593 fun x594 r595 =>
  un_i r595 fun x596 r597 =>
  un_nil r597 <|
  one (mulI .u64 64000000 x585) fun x598 =>
  out (ref_MulDiv x598 4503599627370496 x594) fun r599 =>
  un_i r599 fun x600 r601 =>
  un_nil r601 <|
  chk (decide (x587 ≠ 0)) <|
  one (quoI .u64 x600 x587) fun x602 =>
  one (addI .u64 x602 1) fun x603 =>
  one (mulI .u64 64000000 x585) fun x604 =>
  out (ref_MulDiv x604 4503599627370496 x596) fun r605 =>
  un_i r605 fun x606 r607 =>
  un_nil r607 <|
  chk (decide (x587 ≠ 0)) <|
  one (quoI .u64 x606 x587) fun x608 =>
  one (quoI .u64 x603 1024) fun x609 =>
  one (addI .u64 x603 x609) fun x610 =>
  one (addI .u64 x610 1) fun x611 =>
  br (decide (x591 ≤ x611))
    (one (addI .u64 x591 1) fun x612 =>
     one (quoI .u64 x608 1024) fun x613 =>
     one (subI .u64 x608 x613) fun x614 =>
     one (minI 1 x608) fun x615 =>
     one (subI .u64 x614 x615) fun x616 =>
     some [.b (decide (x612 ≥ x616))])
    (some [.b (false)])
end Go.Sx.T
