import Derived.Test.YtngjglbakgdgaaaGreatDoorYwRttSpec
set_option linter.all false
namespace Go.Sx.T
open Go Go.Sx
def win_New  : Option (List Leaf) :=
  out (rtt_New) fun r509 =>
  un_b r509 fun x510 r511 =>
  un_i r511 fun x512 r513 =>
  un_i r513 fun x514 r515 =>
  un_i r515 fun x516 r517 =>
  un_nil r517 <|
  some [.i (3), .i (1000000), .i (0), .i (0), .i (0), .b (false), .i (0), .b (false), .b (false), .i (0), .b (x510), .i (x512), .i (x514), .i (x516)]
def win_May (w_cwnd : Int) (w_slow : Int) (w_pipe : Int) (w_count : Int) (w_halved_n : Int) (w_halved_is : Bool) (w_last_n : Int) (w_last_is : Bool) (w_runs : Bool) (w_due : Int) (w_rtt_any : Bool) (w_rtt_smooth : Int) (w_rtt_spread : Int) (w_rtt_rto : Int) : Option (List Leaf) :=
  some [.b (decide (w_pipe < w_cwnd))]
def win_runsTo (w_cwnd : Int) (w_slow : Int) (w_pipe : Int) (w_count : Int) (w_halved_n : Int) (w_halved_is : Bool) (w_last_n : Int) (w_last_is : Bool) (w_runs : Bool) (w_due : Int) (w_rtt_any : Bool) (w_rtt_smooth : Int) (w_rtt_spread : Int) (w_rtt_rto : Int) (now : Int) : Option (List Leaf) :=
  one (minI now 4611686018427387904) fun x518 =>
  out (rtt_Rto w_rtt_any w_rtt_smooth w_rtt_spread w_rtt_rto) fun r519 =>
  un_i r519 fun x520 r521 =>
  un_nil r521 <|
  one (addI .i64 x518 x520) fun x522 =>
  some [.i (w_cwnd), .i (w_slow), .i (w_pipe), .i (w_count), .i (w_halved_n), .b (w_halved_is), .i (w_last_n), .b (w_last_is), .b (true), .i (x522), .b (w_rtt_any), .i (w_rtt_smooth), .i (w_rtt_spread), .i (w_rtt_rto)]
def win_Sent (w_cwnd : Int) (w_slow : Int) (w_pipe : Int) (w_count : Int) (w_halved_n : Int) (w_halved_is : Bool) (w_last_n : Int) (w_last_is : Bool) (w_runs : Bool) (w_due : Int) (w_rtt_any : Bool) (w_rtt_smooth : Int) (w_rtt_spread : Int) (w_rtt_rto : Int) (n2 : Int) (now : Int) : Option (List Leaf) :=
  out (win_May w_cwnd w_slow w_pipe w_count w_halved_n w_halved_is w_last_n w_last_is w_runs w_due w_rtt_any w_rtt_smooth w_rtt_spread w_rtt_rto) fun r523 =>
  un_b r523 fun x524 r525 =>
  un_nil r525 <|
  br (!x524)
    (some [.i (w_cwnd), .i (w_slow), .i (w_pipe), .i (w_count), .i (w_halved_n), .b (w_halved_is), .i (w_last_n), .b (w_last_is), .b (w_runs), .i (w_due), .b (w_rtt_any), .i (w_rtt_smooth), .i (w_rtt_spread), .i (w_rtt_rto), .b (false)])
    (one (addI .i64 w_pipe 1) fun x526 =>
     out (seq_Of n2) fun r527 =>
     un_i r527 fun x528 r529 =>
     un_nil r529 <|
     br (!w_runs)
       (out (win_runsTo w_cwnd w_slow x526 w_count w_halved_n w_halved_is x528 true w_runs w_due w_rtt_any w_rtt_smooth w_rtt_spread w_rtt_rto now) fun r530 =>
        un_i r530 fun x531 r532 =>
        un_i r532 fun x533 r534 =>
        un_i r534 fun x535 r536 =>
        un_i r536 fun x537 r538 =>
        un_i r538 fun x539 r540 =>
        un_b r540 fun x541 r542 =>
        un_i r542 fun x543 r544 =>
        un_b r544 fun x545 r546 =>
        un_b r546 fun x547 r548 =>
        un_i r548 fun x549 r550 =>
        un_b r550 fun x551 r552 =>
        un_i r552 fun x553 r554 =>
        un_i r554 fun x555 r556 =>
        un_i r556 fun x557 r558 =>
        un_nil r558 <|
        some [.i (x531), .i (x533), .i (x535), .i (x537), .i (x539), .b (x541), .i (x543), .b (x545), .b (x547), .i (x549), .b (x551), .i (x553), .i (x555), .i (x557), .b (true)])
       (some [.i (w_cwnd), .i (w_slow), .i (x526), .i (w_count), .i (w_halved_n), .b (w_halved_is), .i (x528), .b (true), .b (w_runs), .i (w_due), .b (w_rtt_any), .i (w_rtt_smooth), .i (w_rtt_spread), .i (w_rtt_rto), .b (true)]))
end Go.Sx.T

