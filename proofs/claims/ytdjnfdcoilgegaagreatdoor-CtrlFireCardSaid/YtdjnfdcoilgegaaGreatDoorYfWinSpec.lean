import Derived.Test.YtdjnfdcoilgegaaGreatDoorYfRttSpec
set_option linter.all false
namespace Go.Sx.T
open Go Go.Sx
def win_New  : Option (List Leaf) :=
  out (rtt_New) fun r513 =>
  un_b r513 fun x514 r515 =>
  un_i r515 fun x516 r517 =>
  un_i r517 fun x518 r519 =>
  un_i r519 fun x520 r521 =>
  un_nil r521 <|
  some [.i (3), .i (1000000), .i (0), .i (0), .i (0), .b (false), .i (0), .b (false), .b (false), .i (0), .b (x514), .i (x516), .i (x518), .i (x520)]
def win_May (w_cwnd : Int) (w_slow : Int) (w_pipe : Int) (w_count : Int) (w_halved_n : Int) (w_halved_is : Bool) (w_last_n : Int) (w_last_is : Bool) (w_runs : Bool) (w_due : Int) (w_rtt_any : Bool) (w_rtt_smooth : Int) (w_rtt_spread : Int) (w_rtt_rto : Int) : Option (List Leaf) :=
  some [.b (decide (w_pipe < w_cwnd))]
def win_runsTo (w_cwnd : Int) (w_slow : Int) (w_pipe : Int) (w_count : Int) (w_halved_n : Int) (w_halved_is : Bool) (w_last_n : Int) (w_last_is : Bool) (w_runs : Bool) (w_due : Int) (w_rtt_any : Bool) (w_rtt_smooth : Int) (w_rtt_spread : Int) (w_rtt_rto : Int) (now : Int) : Option (List Leaf) :=
  one (minI now 4611686018427387904) fun x522 =>
  out (rtt_Rto w_rtt_any w_rtt_smooth w_rtt_spread w_rtt_rto) fun r523 =>
  un_i r523 fun x524 r525 =>
  un_nil r525 <|
  one (addI .i64 x522 x524) fun x526 =>
  some [.i (w_cwnd), .i (w_slow), .i (w_pipe), .i (w_count), .i (w_halved_n), .b (w_halved_is), .i (w_last_n), .b (w_last_is), .b (true), .i (x526), .b (w_rtt_any), .i (w_rtt_smooth), .i (w_rtt_spread), .i (w_rtt_rto)]
def win_Sent (w_cwnd : Int) (w_slow : Int) (w_pipe : Int) (w_count : Int) (w_halved_n : Int) (w_halved_is : Bool) (w_last_n : Int) (w_last_is : Bool) (w_runs : Bool) (w_due : Int) (w_rtt_any : Bool) (w_rtt_smooth : Int) (w_rtt_spread : Int) (w_rtt_rto : Int) (n2 : Int) (now : Int) : Option (List Leaf) :=
  out (win_May w_cwnd w_slow w_pipe w_count w_halved_n w_halved_is w_last_n w_last_is w_runs w_due w_rtt_any w_rtt_smooth w_rtt_spread w_rtt_rto) fun r527 =>
  un_b r527 fun x528 r529 =>
  un_nil r529 <|
  br (!x528)
    (some [.i (w_cwnd), .i (w_slow), .i (w_pipe), .i (w_count), .i (w_halved_n), .b (w_halved_is), .i (w_last_n), .b (w_last_is), .b (w_runs), .i (w_due), .b (w_rtt_any), .i (w_rtt_smooth), .i (w_rtt_spread), .i (w_rtt_rto), .b (false)])
    (one (addI .i64 w_pipe 1) fun x530 =>
     out (seq_Of n2) fun r531 =>
     un_i r531 fun x532 r533 =>
     un_nil r533 <|
     br (!w_runs)
       (out (win_runsTo w_cwnd w_slow x530 w_count w_halved_n w_halved_is x532 true w_runs w_due w_rtt_any w_rtt_smooth w_rtt_spread w_rtt_rto now) fun r534 =>
        un_i r534 fun x535 r536 =>
        un_i r536 fun x537 r538 =>
        un_i r538 fun x539 r540 =>
        un_i r540 fun x541 r542 =>
        un_i r542 fun x543 r544 =>
        un_b r544 fun x545 r546 =>
        un_i r546 fun x547 r548 =>
        un_b r548 fun x549 r550 =>
        un_b r550 fun x551 r552 =>
        un_i r552 fun x553 r554 =>
        un_b r554 fun x555 r556 =>
        un_i r556 fun x557 r558 =>
        un_i r558 fun x559 r560 =>
        un_i r560 fun x561 r562 =>
        un_nil r562 <|
        some [.i (x535), .i (x537), .i (x539), .i (x541), .i (x543), .b (x545), .i (x547), .b (x549), .b (x551), .i (x553), .b (x555), .i (x557), .i (x559), .i (x561), .b (true)])
       (some [.i (w_cwnd), .i (w_slow), .i (x530), .i (w_count), .i (w_halved_n), .b (w_halved_is), .i (x532), .b (true), .b (w_runs), .i (w_due), .b (w_rtt_any), .i (w_rtt_smooth), .i (w_rtt_spread), .i (w_rtt_rto), .b (true)]))
def win_halve (w_cwnd : Int) (w_slow : Int) (w_pipe : Int) (w_count : Int) (w_halved_n : Int) (w_halved_is : Bool) (w_last_n : Int) (w_last_is : Bool) (w_runs : Bool) (w_due : Int) (w_rtt_any : Bool) (w_rtt_smooth : Int) (w_rtt_spread : Int) (w_rtt_rto : Int) : Option (List Leaf) :=
  one (quoI .i64 w_cwnd 2) fun x563 =>
  one (maxI x563 1) fun x564 =>
  br (w_last_is)
    (some [.i (x564), .i (x564), .i (w_pipe), .i (0), .i (w_last_n), .b (w_last_is), .i (w_last_n), .b (w_last_is), .b (w_runs), .i (w_due), .b (w_rtt_any), .i (w_rtt_smooth), .i (w_rtt_spread), .i (w_rtt_rto)])
    (some [.i (x564), .i (x564), .i (w_pipe), .i (0), .i (w_halved_n), .b (w_halved_is), .i (w_last_n), .b (w_last_is), .b (w_runs), .i (w_due), .b (w_rtt_any), .i (w_rtt_smooth), .i (w_rtt_spread), .i (w_rtt_rto)])
def win_Due (w_cwnd : Int) (w_slow : Int) (w_pipe : Int) (w_count : Int) (w_halved_n : Int) (w_halved_is : Bool) (w_last_n : Int) (w_last_is : Bool) (w_runs : Bool) (w_due : Int) (w_rtt_any : Bool) (w_rtt_smooth : Int) (w_rtt_spread : Int) (w_rtt_rto : Int) : Option (List Leaf) :=
  br (!w_runs)
    (some [.i (0), .b (false)])
    (some [.i (w_due), .b (true)])
def win_Fire (w_cwnd : Int) (w_slow : Int) (w_pipe : Int) (w_count : Int) (w_halved_n : Int) (w_halved_is : Bool) (w_last_n : Int) (w_last_is : Bool) (w_runs : Bool) (w_due : Int) (w_rtt_any : Bool) (w_rtt_smooth : Int) (w_rtt_spread : Int) (w_rtt_rto : Int) (now : Int) : Option (List Leaf) :=
  br (!w_runs)
    (some [.i (w_cwnd), .i (w_slow), .i (w_pipe), .i (w_count), .i (w_halved_n), .b (w_halved_is), .i (w_last_n), .b (w_last_is), .b (w_runs), .i (w_due), .b (w_rtt_any), .i (w_rtt_smooth), .i (w_rtt_spread), .i (w_rtt_rto), .b (false)])
    (one (minI now 4611686018427387904) fun x565 =>
     br (decide (x565 < w_due))
       (some [.i (w_cwnd), .i (w_slow), .i (w_pipe), .i (w_count), .i (w_halved_n), .b (w_halved_is), .i (w_last_n), .b (w_last_is), .b (w_runs), .i (w_due), .b (w_rtt_any), .i (w_rtt_smooth), .i (w_rtt_spread), .i (w_rtt_rto), .b (false)])
       (out (win_halve w_cwnd w_slow w_pipe w_count w_halved_n w_halved_is w_last_n w_last_is w_runs w_due w_rtt_any w_rtt_smooth w_rtt_spread w_rtt_rto) fun r566 =>
        un_i r566 fun x567 r568 =>
        un_i r568 fun x569 r570 =>
        un_i r570 fun x571 r572 =>
        un_i r572 fun x573 r574 =>
        un_i r574 fun x575 r576 =>
        un_b r576 fun x577 r578 =>
        un_i r578 fun x579 r580 =>
        un_b r580 fun x581 r582 =>
        un_b r582 fun x583 r584 =>
        un_i r584 fun x585 r586 =>
        un_b r586 fun x587 r588 =>
        un_i r588 fun x589 r590 =>
        un_i r590 fun x591 r592 =>
        un_i r592 fun x593 r594 =>
        un_nil r594 <|
        out (rtt_Back x587 x589 x591 x593) fun r595 =>
        un_b r595 fun x596 r597 =>
        un_i r597 fun x598 r599 =>
        un_i r599 fun x600 r601 =>
        un_i r601 fun x602 r603 =>
        un_nil r603 <|
        some [.i (1), .i (x569), .i (0), .i (x573), .i (x575), .b (x577), .i (x579), .b (x581), .b (false), .i (x585), .b (x596), .i (x598), .i (x600), .i (x602), .b (true)]))
def win_Cwnd (w_cwnd : Int) (w_slow : Int) (w_pipe : Int) (w_count : Int) (w_halved_n : Int) (w_halved_is : Bool) (w_last_n : Int) (w_last_is : Bool) (w_runs : Bool) (w_due : Int) (w_rtt_any : Bool) (w_rtt_smooth : Int) (w_rtt_spread : Int) (w_rtt_rto : Int) : Option (List Leaf) :=
  some [.i (w_cwnd)]
def win_Pipe (w_cwnd : Int) (w_slow : Int) (w_pipe : Int) (w_count : Int) (w_halved_n : Int) (w_halved_is : Bool) (w_last_n : Int) (w_last_is : Bool) (w_runs : Bool) (w_due : Int) (w_rtt_any : Bool) (w_rtt_smooth : Int) (w_rtt_spread : Int) (w_rtt_rto : Int) : Option (List Leaf) :=
  some [.i (w_pipe)]
end Go.Sx.T

