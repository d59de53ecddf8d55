import Derived.Test.YtdjnfdcoilgegaaGreatDoorYfWinSpec
import Derived.Test.YtdjnfdcoilgegaaGreatDoorYfTfrcSpec
import Derived.Test.YtdjnfdcoilgegaaGreatDoorYPaceSpec
set_option linter.all false
namespace Go.Sx.T
open Go Go.Sx
def cw_Sent (c_w_cwnd : Int) (c_w_slow : Int) (c_w_pipe : Int) (c_w_count : Int) (c_w_halved_n : Int) (c_w_halved_is : Bool) (c_w_last_n : Int) (c_w_last_is : Bool) (c_w_runs : Bool) (c_w_due : Int) (c_w_rtt_any : Bool) (c_w_rtt_smooth : Int) (c_w_rtt_spread : Int) (c_w_rtt_rto : Int) (now : Int) (s : Int) (t3 : Int) : Option (List Leaf) :=
  out (win_Sent c_w_cwnd c_w_slow c_w_pipe c_w_count c_w_halved_n c_w_halved_is c_w_last_n c_w_last_is c_w_runs c_w_due c_w_rtt_any c_w_rtt_smooth c_w_rtt_spread c_w_rtt_rto s now) fun r604 =>
  un_i r604 fun x605 r606 =>
  un_i r606 fun x607 r608 =>
  un_i r608 fun x609 r610 =>
  un_i r610 fun x611 r612 =>
  un_i r612 fun x613 r614 =>
  un_b r614 fun x615 r616 =>
  un_i r616 fun x617 r618 =>
  un_b r618 fun x619 r620 =>
  un_b r620 fun x621 r622 =>
  un_i r622 fun x623 r624 =>
  un_b r624 fun x625 r626 =>
  un_i r626 fun x627 r628 =>
  un_i r628 fun x629 r630 =>
  un_i r630 fun x631 r632 =>
  un_b r632 fun x633 r634 =>
  un_nil r634 <|
  some [.i (x605), .i (x607), .i (x609), .i (x611), .i (x613), .b (x615), .i (x617), .b (x619), .b (x621), .i (x623), .b (x625), .i (x627), .i (x629), .i (x631), .b (x633)]
def cw_Fire (c_w_cwnd : Int) (c_w_slow : Int) (c_w_pipe : Int) (c_w_count : Int) (c_w_halved_n : Int) (c_w_halved_is : Bool) (c_w_last_n : Int) (c_w_last_is : Bool) (c_w_runs : Bool) (c_w_due : Int) (c_w_rtt_any : Bool) (c_w_rtt_smooth : Int) (c_w_rtt_spread : Int) (c_w_rtt_rto : Int) (now : Int) : Option (List Leaf) :=
  out (win_Fire c_w_cwnd c_w_slow c_w_pipe c_w_count c_w_halved_n c_w_halved_is c_w_last_n c_w_last_is c_w_runs c_w_due c_w_rtt_any c_w_rtt_smooth c_w_rtt_spread c_w_rtt_rto now) fun r635 =>
  un_i r635 fun x636 r637 =>
  un_i r637 fun x638 r639 =>
  un_i r639 fun x640 r641 =>
  un_i r641 fun x642 r643 =>
  un_i r643 fun x644 r645 =>
  un_b r645 fun x646 r647 =>
  un_i r647 fun x648 r649 =>
  un_b r649 fun x650 r651 =>
  un_b r651 fun x652 r653 =>
  un_i r653 fun x654 r655 =>
  un_b r655 fun x656 r657 =>
  un_i r657 fun x658 r659 =>
  un_i r659 fun x660 r661 =>
  un_i r661 fun x662 r663 =>
  un_b r663 fun x664 r665 =>
  un_nil r665 <|
  some [.i (x636), .i (x638), .i (x640), .i (x642), .i (x644), .b (x646), .i (x648), .b (x650), .b (x652), .i (x654), .b (x656), .i (x658), .i (x660), .i (x662), .b (x664)]
def cw_Due (c_w_cwnd : Int) (c_w_slow : Int) (c_w_pipe : Int) (c_w_count : Int) (c_w_halved_n : Int) (c_w_halved_is : Bool) (c_w_last_n : Int) (c_w_last_is : Bool) (c_w_runs : Bool) (c_w_due : Int) (c_w_rtt_any : Bool) (c_w_rtt_smooth : Int) (c_w_rtt_spread : Int) (c_w_rtt_rto : Int) : Option (List Leaf) :=
  out (win_Due c_w_cwnd c_w_slow c_w_pipe c_w_count c_w_halved_n c_w_halved_is c_w_last_n c_w_last_is c_w_runs c_w_due c_w_rtt_any c_w_rtt_smooth c_w_rtt_spread c_w_rtt_rto) fun r666 =>
  un_i r666 fun x667 r668 =>
  un_b r668 fun x669 r670 =>
  un_nil r670 <|
  one (x667) fun x671 =>
  some [.i (c_w_cwnd), .i (c_w_slow), .i (c_w_pipe), .i (c_w_count), .i (c_w_halved_n), .b (c_w_halved_is), .i (c_w_last_n), .b (c_w_last_is), .b (c_w_runs), .i (c_w_due), .b (c_w_rtt_any), .i (c_w_rtt_smooth), .i (c_w_rtt_spread), .i (c_w_rtt_rto), .i (x671), .b (x669)]
def cr_turns (c_t_set_l0 : List Int) (c_t_set_l1 : List Int) (c_last : Int) (c_t_s : Int) (c_t_x : Int) (c_t_loss : Int) (c_t_rtt : Int) (c_t_heard : Bool) (c_t_doubled : Int) (c_t_began : Bool) (c_t_started : Bool) (c_t_due : Int) (c_p_s : Int) (c_p_tick : Int) (c_p_has : Int) (c_p_rate : Int) (c_p_now : Int) (now : Int) : Option (List Leaf) :=
  chk (decide (Int.ofNat (List.length c_t_set_l0) = Int.ofNat (List.length c_t_set_l0)) && true && true) <|
  out (tfrc_Rate c_t_set_l0 c_t_set_l1 c_t_s c_t_x c_t_loss c_t_rtt c_t_heard c_t_doubled c_t_began c_t_started c_t_due) fun r672 =>
  un_i r672 fun x673 r674 =>
  un_nil r674 <|
  br (x673 != c_last)
    (out (pace_Rate c_p_s c_p_tick c_p_has c_p_rate c_p_now now x673) fun r675 =>
     un_i r675 fun x676 r677 =>
     un_i r677 fun x678 r679 =>
     un_i r679 fun x680 r681 =>
     un_i r681 fun x682 r683 =>
     un_i r683 fun x684 r685 =>
     un_nil r685 <|
     chk (decide (Int.ofNat (List.length c_t_set_l0) = Int.ofNat (List.length c_t_set_l0)) && true && true) <|
     some [.li (c_t_set_l0), .li (c_t_set_l1), .i (x673), .i (c_t_s), .i (c_t_x), .i (c_t_loss), .i (c_t_rtt), .b (c_t_heard), .i (c_t_doubled), .b (c_t_began), .b (c_t_started), .i (c_t_due), .i (x676), .i (x678), .i (x680), .i (x682), .i (x684)])
    (chk (decide (Int.ofNat (List.length c_t_set_l0) = Int.ofNat (List.length c_t_set_l0)) && true && true) <|
     some [.li (c_t_set_l0), .li (c_t_set_l1), .i (c_last), .i (c_t_s), .i (c_t_x), .i (c_t_loss), .i (c_t_rtt), .b (c_t_heard), .i (c_t_doubled), .b (c_t_began), .b (c_t_started), .i (c_t_due), .i (c_p_s), .i (c_p_tick), .i (c_p_has), .i (c_p_rate), .i (c_p_now)])
def cr_Sent (c_t_set_l0 : List Int) (c_t_set_l1 : List Int) (c_last : Int) (c_t_s : Int) (c_t_x : Int) (c_t_loss : Int) (c_t_rtt : Int) (c_t_heard : Bool) (c_t_doubled : Int) (c_t_began : Bool) (c_t_started : Bool) (c_t_due : Int) (c_p_s : Int) (c_p_tick : Int) (c_p_has : Int) (c_p_rate : Int) (c_p_now : Int) (now : Int) (t2 : Int) (n2 : Int) : Option (List Leaf) :=
  chk (decide (Int.ofNat (List.length c_t_set_l0) = Int.ofNat (List.length c_t_set_l0)) && true && true) <|
  out (cr_turns c_t_set_l0 c_t_set_l1 c_last c_t_s c_t_x c_t_loss c_t_rtt c_t_heard c_t_doubled c_t_began c_t_started c_t_due c_p_s c_p_tick c_p_has c_p_rate c_p_now now) fun r686 =>
  un_li r686 fun x687 r688 =>
  un_li r688 fun x689 r690 =>
  un_i r690 fun x691 r692 =>
  un_i r692 fun x693 r694 =>
  un_i r694 fun x695 r696 =>
  un_i r696 fun x697 r698 =>
  un_i r698 fun x699 r700 =>
  un_b r700 fun x701 r702 =>
  un_i r702 fun x703 r704 =>
  un_b r704 fun x705 r706 =>
  un_b r706 fun x707 r708 =>
  un_i r708 fun x709 r710 =>
  un_i r710 fun x711 r712 =>
  un_i r712 fun x713 r714 =>
  un_i r714 fun x715 r716 =>
  un_i r716 fun x717 r718 =>
  un_i r718 fun x719 r720 =>
  un_nil r720 <|
  chk (decide (Int.ofNat (List.length x687) = Int.ofNat (List.length x687)) && true && true) <|
  out (tfrc_Start x687 x689 x693 x695 x697 x699 x701 x703 x705 x707 x709 now) fun r721 =>
  un_li r721 fun x722 r723 =>
  un_li r723 fun x724 r725 =>
  un_i r725 fun x726 r727 =>
  un_i r727 fun x728 r729 =>
  un_i r729 fun x730 r731 =>
  un_i r731 fun x732 r733 =>
  un_b r733 fun x734 r735 =>
  un_i r735 fun x736 r737 =>
  un_b r737 fun x738 r739 =>
  un_b r739 fun x740 r741 =>
  un_i r741 fun x742 r743 =>
  un_nil r743 <|
  out (pace_Take x711 x713 x715 x717 x719 now n2) fun r744 =>
  un_i r744 fun x745 r746 =>
  un_i r746 fun x747 r748 =>
  un_i r748 fun x749 r750 =>
  un_i r750 fun x751 r752 =>
  un_i r752 fun x753 r754 =>
  un_b r754 fun x755 r756 =>
  un_nil r756 <|
  chk (decide (Int.ofNat (List.length x722) = Int.ofNat (List.length x722)) && true && true) <|
  some [.li (x722), .li (x724), .i (x691), .i (x726), .i (x728), .i (x730), .i (x732), .b (x734), .i (x736), .b (x738), .b (x740), .i (x742), .i (x745), .i (x747), .i (x749), .i (x751), .i (x753), .b (x755)]
def cr_Fire (c_t_set_l0 : List Int) (c_t_set_l1 : List Int) (c_last : Int) (c_t_s : Int) (c_t_x : Int) (c_t_loss : Int) (c_t_rtt : Int) (c_t_heard : Bool) (c_t_doubled : Int) (c_t_began : Bool) (c_t_started : Bool) (c_t_due : Int) (c_p_s : Int) (c_p_tick : Int) (c_p_has : Int) (c_p_rate : Int) (c_p_now : Int) (now : Int) : Option (List Leaf) :=
  chk (decide (Int.ofNat (List.length c_t_set_l0) = Int.ofNat (List.length c_t_set_l0)) && true && true) <|
  out (cr_turns c_t_set_l0 c_t_set_l1 c_last c_t_s c_t_x c_t_loss c_t_rtt c_t_heard c_t_doubled c_t_began c_t_started c_t_due c_p_s c_p_tick c_p_has c_p_rate c_p_now now) fun r757 =>
  un_li r757 fun x758 r759 =>
  un_li r759 fun x760 r761 =>
  un_i r761 fun x762 r763 =>
  un_i r763 fun x764 r765 =>
  un_i r765 fun x766 r767 =>
  un_i r767 fun x768 r769 =>
  un_i r769 fun x770 r771 =>
  un_b r771 fun x772 r773 =>
  un_i r773 fun x774 r775 =>
  un_b r775 fun x776 r777 =>
  un_b r777 fun x778 r779 =>
  un_i r779 fun x780 r781 =>
  un_i r781 fun x782 r783 =>
  un_i r783 fun x784 r785 =>
  un_i r785 fun x786 r787 =>
  un_i r787 fun x788 r789 =>
  un_i r789 fun x790 r791 =>
  un_nil r791 <|
  chk (decide (Int.ofNat (List.length x758) = Int.ofNat (List.length x758)) && true && true) <|
  out (tfrc_Fire x758 x760 x764 x766 x768 x770 x772 x774 x776 x778 x780 now) fun r792 =>
  un_li r792 fun x793 r794 =>
  un_li r794 fun x795 r796 =>
  un_i r796 fun x797 r798 =>
  un_i r798 fun x799 r800 =>
  un_i r800 fun x801 r802 =>
  un_i r802 fun x803 r804 =>
  un_b r804 fun x805 r806 =>
  un_i r806 fun x807 r808 =>
  un_b r808 fun x809 r810 =>
  un_b r810 fun x811 r812 =>
  un_i r812 fun x813 r814 =>
  un_b r814 fun x815 r816 =>
  un_nil r816 <|
  chk (decide (Int.ofNat (List.length x793) = Int.ofNat (List.length x793)) && true && true) <|
  out (cr_turns x793 x795 x762 x797 x799 x801 x803 x805 x807 x809 x811 x813 x782 x784 x786 x788 x790 now) fun r817 =>
  un_li r817 fun x818 r819 =>
  un_li r819 fun x820 r821 =>
  un_i r821 fun x822 r823 =>
  un_i r823 fun x824 r825 =>
  un_i r825 fun x826 r827 =>
  un_i r827 fun x828 r829 =>
  un_i r829 fun x830 r831 =>
  un_b r831 fun x832 r833 =>
  un_i r833 fun x834 r835 =>
  un_b r835 fun x836 r837 =>
  un_b r837 fun x838 r839 =>
  un_i r839 fun x840 r841 =>
  un_i r841 fun x842 r843 =>
  un_i r843 fun x844 r845 =>
  un_i r845 fun x846 r847 =>
  un_i r847 fun x848 r849 =>
  un_i r849 fun x850 r851 =>
  un_nil r851 <|
  chk (decide (Int.ofNat (List.length x818) = Int.ofNat (List.length x818)) && true && true) <|
  some [.li (x818), .li (x820), .i (x822), .i (x824), .i (x826), .i (x828), .i (x830), .b (x832), .i (x834), .b (x836), .b (x838), .i (x840), .i (x842), .i (x844), .i (x846), .i (x848), .i (x850), .b (x815)]
def cr_Due (c_t_set_l0 : List Int) (c_t_set_l1 : List Int) (c_last : Int) (c_t_s : Int) (c_t_x : Int) (c_t_loss : Int) (c_t_rtt : Int) (c_t_heard : Bool) (c_t_doubled : Int) (c_t_began : Bool) (c_t_started : Bool) (c_t_due : Int) (c_p_s : Int) (c_p_tick : Int) (c_p_has : Int) (c_p_rate : Int) (c_p_now : Int) : Option (List Leaf) :=
  chk (decide (Int.ofNat (List.length c_t_set_l0) = Int.ofNat (List.length c_t_set_l0)) && true && true) <|
  out (tfrc_Due c_t_set_l0 c_t_set_l1 c_t_s c_t_x c_t_loss c_t_rtt c_t_heard c_t_doubled c_t_began c_t_started c_t_due) fun r852 =>
  un_i r852 fun x853 r854 =>
  un_b r854 fun x855 r856 =>
  un_nil r856 <|
  one (x853) fun x857 =>
  chk (decide (Int.ofNat (List.length c_t_set_l0) = Int.ofNat (List.length c_t_set_l0)) && true && true) <|
  some [.li (c_t_set_l0), .li (c_t_set_l1), .i (c_last), .i (c_t_s), .i (c_t_x), .i (c_t_loss), .i (c_t_rtt), .b (c_t_heard), .i (c_t_doubled), .b (c_t_began), .b (c_t_started), .i (c_t_due), .i (c_p_s), .i (c_p_tick), .i (c_p_has), .i (c_p_rate), .i (c_p_now), .i (x857), .b (x855)]
end Go.Sx.T

