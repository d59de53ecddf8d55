import Derived.Test.YtngjglbakgdgaaaGreatDoorYwWinSpec
import Derived.Test.YtngjglbakgdgaaaGreatDoorYwTfrcSpec
import Derived.Test.YtngjglbakgdgaaaGreatDoorYPaceSpec
set_option linter.all false
namespace Go.Sx.T
open Go Go.Sx
def cw_May (c_w_cwnd : Int) (c_w_slow : Int) (c_w_pipe : Int) (c_w_count : Int) (c_w_halved_n : Int) (c_w_halved_is : Bool) (c_w_last_n : Int) (c_w_last_is : Bool) (c_w_runs : Bool) (c_w_due : Int) (c_w_rtt_any : Bool) (c_w_rtt_smooth : Int) (c_w_rtt_spread : Int) (c_w_rtt_rto : Int) (t1 : Int) (t2 : Int) : Option (List Leaf) :=
  out (win_May c_w_cwnd c_w_slow c_w_pipe c_w_count c_w_halved_n c_w_halved_is c_w_last_n c_w_last_is c_w_runs c_w_due c_w_rtt_any c_w_rtt_smooth c_w_rtt_spread c_w_rtt_rto) fun r559 =>
  un_b r559 fun x560 r561 =>
  un_nil r561 <|
  some [.i (c_w_cwnd), .i (c_w_slow), .i (c_w_pipe), .i (c_w_count), .i (c_w_halved_n), .b (c_w_halved_is), .i (c_w_last_n), .b (c_w_last_is), .b (c_w_runs), .i (c_w_due), .b (c_w_rtt_any), .i (c_w_rtt_smooth), .i (c_w_rtt_spread), .i (c_w_rtt_rto), .b (x560)]
def cw_Sent (c_w_cwnd : Int) (c_w_slow : Int) (c_w_pipe : Int) (c_w_count : Int) (c_w_halved_n : Int) (c_w_halved_is : Bool) (c_w_last_n : Int) (c_w_last_is : Bool) (c_w_runs : Bool) (c_w_due : Int) (c_w_rtt_any : Bool) (c_w_rtt_smooth : Int) (c_w_rtt_spread : Int) (c_w_rtt_rto : Int) (now : Int) (s : Int) (t3 : Int) : Option (List Leaf) :=
  out (win_Sent c_w_cwnd c_w_slow c_w_pipe c_w_count c_w_halved_n c_w_halved_is c_w_last_n c_w_last_is c_w_runs c_w_due c_w_rtt_any c_w_rtt_smooth c_w_rtt_spread c_w_rtt_rto s now) fun r562 =>
  un_i r562 fun x563 r564 =>
  un_i r564 fun x565 r566 =>
  un_i r566 fun x567 r568 =>
  un_i r568 fun x569 r570 =>
  un_i r570 fun x571 r572 =>
  un_b r572 fun x573 r574 =>
  un_i r574 fun x575 r576 =>
  un_b r576 fun x577 r578 =>
  un_b r578 fun x579 r580 =>
  un_i r580 fun x581 r582 =>
  un_b r582 fun x583 r584 =>
  un_i r584 fun x585 r586 =>
  un_i r586 fun x587 r588 =>
  un_i r588 fun x589 r590 =>
  un_b r590 fun x591 r592 =>
  un_nil r592 <|
  some [.i (x563), .i (x565), .i (x567), .i (x569), .i (x571), .b (x573), .i (x575), .b (x577), .b (x579), .i (x581), .b (x583), .i (x585), .i (x587), .i (x589), .b (x591)]
def cr_turns (c_t_set_l0 : List Int) (c_t_set_l1 : List Int) (c_last : Int) (c_t_s : Int) (c_t_x : Int) (c_t_loss : Int) (c_t_rtt : Int) (c_t_heard : Bool) (c_t_doubled : Int) (c_t_began : Bool) (c_t_started : Bool) (c_t_due : Int) (c_p_s : Int) (c_p_tick : Int) (c_p_has : Int) (c_p_rate : Int) (c_p_now : Int) (now : Int) : Option (List Leaf) :=
  chk (decide (Int.ofNat (List.length c_t_set_l0) = Int.ofNat (List.length c_t_set_l0)) && true && true) <|
  out (tfrc_Rate c_t_set_l0 c_t_set_l1 c_t_s c_t_x c_t_loss c_t_rtt c_t_heard c_t_doubled c_t_began c_t_started c_t_due) fun r593 =>
  un_i r593 fun x594 r595 =>
  un_nil r595 <|
  br (x594 != c_last)
    (out (pace_Rate c_p_s c_p_tick c_p_has c_p_rate c_p_now now x594) fun r596 =>
     un_i r596 fun x597 r598 =>
     un_i r598 fun x599 r600 =>
     un_i r600 fun x601 r602 =>
     un_i r602 fun x603 r604 =>
     un_i r604 fun x605 r606 =>
     un_nil r606 <|
     chk (decide (Int.ofNat (List.length c_t_set_l0) = Int.ofNat (List.length c_t_set_l0)) && true && true) <|
     some [.li (c_t_set_l0), .li (c_t_set_l1), .i (x594), .i (c_t_s), .i (c_t_x), .i (c_t_loss), .i (c_t_rtt), .b (c_t_heard), .i (c_t_doubled), .b (c_t_began), .b (c_t_started), .i (c_t_due), .i (x597), .i (x599), .i (x601), .i (x603), .i (x605)])
    (chk (decide (Int.ofNat (List.length c_t_set_l0) = Int.ofNat (List.length c_t_set_l0)) && true && true) <|
     some [.li (c_t_set_l0), .li (c_t_set_l1), .i (c_last), .i (c_t_s), .i (c_t_x), .i (c_t_loss), .i (c_t_rtt), .b (c_t_heard), .i (c_t_doubled), .b (c_t_began), .b (c_t_started), .i (c_t_due), .i (c_p_s), .i (c_p_tick), .i (c_p_has), .i (c_p_rate), .i (c_p_now)])
def cr_May (c_t_set_l0 : List Int) (c_t_set_l1 : List Int) (c_last : Int) (c_t_s : Int) (c_t_x : Int) (c_t_loss : Int) (c_t_rtt : Int) (c_t_heard : Bool) (c_t_doubled : Int) (c_t_began : Bool) (c_t_started : Bool) (c_t_due : Int) (c_p_s : Int) (c_p_tick : Int) (c_p_has : Int) (c_p_rate : Int) (c_p_now : Int) (now : Int) (n2 : Int) : Option (List Leaf) :=
  chk (decide (Int.ofNat (List.length c_t_set_l0) = Int.ofNat (List.length c_t_set_l0)) && true && true) <|
  out (cr_turns c_t_set_l0 c_t_set_l1 c_last c_t_s c_t_x c_t_loss c_t_rtt c_t_heard c_t_doubled c_t_began c_t_started c_t_due c_p_s c_p_tick c_p_has c_p_rate c_p_now now) fun r607 =>
  un_li r607 fun x608 r609 =>
  un_li r609 fun x610 r611 =>
  un_i r611 fun x612 r613 =>
  un_i r613 fun x614 r615 =>
  un_i r615 fun x616 r617 =>
  un_i r617 fun x618 r619 =>
  un_i r619 fun x620 r621 =>
  un_b r621 fun x622 r623 =>
  un_i r623 fun x624 r625 =>
  un_b r625 fun x626 r627 =>
  un_b r627 fun x628 r629 =>
  un_i r629 fun x630 r631 =>
  un_i r631 fun x632 r633 =>
  un_i r633 fun x634 r635 =>
  un_i r635 fun x636 r637 =>
  un_i r637 fun x638 r639 =>
  un_i r639 fun x640 r641 =>
  un_nil r641 <|
  out (pace_May x632 x634 x636 x638 x640 now n2) fun r642 =>
  un_i r642 fun x643 r644 =>
  un_i r644 fun x645 r646 =>
  un_i r646 fun x647 r648 =>
  un_i r648 fun x649 r650 =>
  un_i r650 fun x651 r652 =>
  un_b r652 fun x653 r654 =>
  un_nil r654 <|
  chk (decide (Int.ofNat (List.length x608) = Int.ofNat (List.length x608)) && true && true) <|
  some [.li (x608), .li (x610), .i (x612), .i (x614), .i (x616), .i (x618), .i (x620), .b (x622), .i (x624), .b (x626), .b (x628), .i (x630), .i (x643), .i (x645), .i (x647), .i (x649), .i (x651), .b (x653)]
def cr_Sent (c_t_set_l0 : List Int) (c_t_set_l1 : List Int) (c_last : Int) (c_t_s : Int) (c_t_x : Int) (c_t_loss : Int) (c_t_rtt : Int) (c_t_heard : Bool) (c_t_doubled : Int) (c_t_began : Bool) (c_t_started : Bool) (c_t_due : Int) (c_p_s : Int) (c_p_tick : Int) (c_p_has : Int) (c_p_rate : Int) (c_p_now : Int) (now : Int) (t2 : Int) (n2 : Int) : Option (List Leaf) :=
  chk (decide (Int.ofNat (List.length c_t_set_l0) = Int.ofNat (List.length c_t_set_l0)) && true && true) <|
  out (cr_turns c_t_set_l0 c_t_set_l1 c_last c_t_s c_t_x c_t_loss c_t_rtt c_t_heard c_t_doubled c_t_began c_t_started c_t_due c_p_s c_p_tick c_p_has c_p_rate c_p_now now) fun r655 =>
  un_li r655 fun x656 r657 =>
  un_li r657 fun x658 r659 =>
  un_i r659 fun x660 r661 =>
  un_i r661 fun x662 r663 =>
  un_i r663 fun x664 r665 =>
  un_i r665 fun x666 r667 =>
  un_i r667 fun x668 r669 =>
  un_b r669 fun x670 r671 =>
  un_i r671 fun x672 r673 =>
  un_b r673 fun x674 r675 =>
  un_b r675 fun x676 r677 =>
  un_i r677 fun x678 r679 =>
  un_i r679 fun x680 r681 =>
  un_i r681 fun x682 r683 =>
  un_i r683 fun x684 r685 =>
  un_i r685 fun x686 r687 =>
  un_i r687 fun x688 r689 =>
  un_nil r689 <|
  chk (decide (Int.ofNat (List.length x656) = Int.ofNat (List.length x656)) && true && true) <|
  out (tfrc_Start x656 x658 x662 x664 x666 x668 x670 x672 x674 x676 x678 now) fun r690 =>
  un_li r690 fun x691 r692 =>
  un_li r692 fun x693 r694 =>
  un_i r694 fun x695 r696 =>
  un_i r696 fun x697 r698 =>
  un_i r698 fun x699 r700 =>
  un_i r700 fun x701 r702 =>
  un_b r702 fun x703 r704 =>
  un_i r704 fun x705 r706 =>
  un_b r706 fun x707 r708 =>
  un_b r708 fun x709 r710 =>
  un_i r710 fun x711 r712 =>
  un_nil r712 <|
  out (pace_Take x680 x682 x684 x686 x688 now n2) fun r713 =>
  un_i r713 fun x714 r715 =>
  un_i r715 fun x716 r717 =>
  un_i r717 fun x718 r719 =>
  un_i r719 fun x720 r721 =>
  un_i r721 fun x722 r723 =>
  un_b r723 fun x724 r725 =>
  un_nil r725 <|
  chk (decide (Int.ofNat (List.length x691) = Int.ofNat (List.length x691)) && true && true) <|
  some [.li (x691), .li (x693), .i (x660), .i (x695), .i (x697), .i (x699), .i (x701), .b (x703), .i (x705), .b (x707), .b (x709), .i (x711), .i (x714), .i (x716), .i (x718), .i (x720), .i (x722), .b (x724)]
end Go.Sx.T

