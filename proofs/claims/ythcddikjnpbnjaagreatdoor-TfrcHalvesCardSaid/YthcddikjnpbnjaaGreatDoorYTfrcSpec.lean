import Derived.Test.YthcddikjnpbnjaaGreatDoorYSetSpec
import Derived.Test.YthcddikjnpbnjaaGreatDoorYFixSpec
set_option linter.all false
namespace Go.Sx.T
open Go Go.Sx
def tfrc_New (s : Int) : Option (List Leaf) :=
  br (decide (s < 1))
    (none)
    (br (decide (s > 1400))
       (none)
       (one (wrapI .u64 s) fun x610 =>
        one (wrapI .u64 s) fun x611 =>
        one (mulI .u64 64 x611) fun x612 =>
        out (rset_New) fun r613 =>
        un_li r613 fun x614 r615 =>
        un_li r615 fun x616 r617 =>
        un_nil r617 <|
        chk (decide (Int.ofNat (List.length x614) = Int.ofNat (List.length x614)) && true && true) <|
        some [.li (x614), .li (x616), .i (x610), .i (x612), .i (0), .i (0), .b (false), .i (0), .b (false), .b (false), .i (0)]))
def tfrc_begin (t_set_l0 : List Int) (t_set_l1 : List Int) (t_s : Int) (t_x : Int) (t_loss : Int) (t_rtt : Int) (t_heard : Bool) (t_doubled : Int) (t_began : Bool) (t_started : Bool) (t_due : Int) : Option (List Leaf) :=
  one (mulI .u64 4 t_s) fun x618 =>
  one (mulI .u64 2 t_s) fun x619 =>
  one (maxI x619 4380) fun x620 =>
  one (minI x618 x620) fun x621 =>
  one (mulI .u64 64 x621) fun x622 =>
  one (wrapI .u64 t_rtt) fun x623 =>
  out (fix_MulDiv x622 1000000 x623) fun r624 =>
  un_i r624 fun x625 r626 =>
  un_nil r626 <|
  some [.i (x625)]
def tfrc_limit (t_set_l0 : List Int) (t_set_l1 : List Int) (t_s : Int) (t_x : Int) (t_loss : Int) (t_rtt : Int) (t_heard : Bool) (t_doubled : Int) (t_began : Bool) (t_started : Bool) (t_due : Int) (now : Int) (x : Int) (p : Int) (limited : Bool) : Option (List Leaf) :=
  br (limited)
    (br (decide (p > t_loss))
       (chk (decide (Int.ofNat (List.length t_set_l0) = Int.ofNat (List.length t_set_l0)) && true && true) <|
        out (rset_Halve t_set_l0 t_set_l1) fun r627 =>
        un_li r627 fun x628 r629 =>
        un_li r629 fun x630 r631 =>
        un_nil r631 <|
        one (mulI .u64 x 17) fun x632 =>
        one (quoI .u64 x632 20) fun x633 =>
        chk (decide (Int.ofNat (List.length x628) = Int.ofNat (List.length x628)) && true && true) <|
        out (rset_Maximize x628 x630 x633 now) fun r634 =>
        un_li r634 fun x635 r636 =>
        un_li r636 fun x637 r638 =>
        un_nil r638 <|
        chk (decide (Int.ofNat (List.length x635) = Int.ofNat (List.length x635)) && true && true) <|
        out (rset_Max x635 x637) fun r639 =>
        un_i r639 fun x640 r641 =>
        un_nil r641 <|
        chk (decide (Int.ofNat (List.length x635) = Int.ofNat (List.length x635)) && true && true) <|
        some [.li (x635), .li (x637), .i (t_s), .i (t_x), .i (t_loss), .i (t_rtt), .b (t_heard), .i (t_doubled), .b (t_began), .b (t_started), .i (t_due), .i (x640)])
       (br (limited)
          (chk (decide (Int.ofNat (List.length t_set_l0) = Int.ofNat (List.length t_set_l0)) && true && true) <|
           out (rset_Maximize t_set_l0 t_set_l1 x now) fun r642 =>
           un_li r642 fun x643 r644 =>
           un_li r644 fun x645 r646 =>
           un_nil r646 <|
           chk (decide (Int.ofNat (List.length x643) = Int.ofNat (List.length x643)) && true && true) <|
           out (rset_Max x643 x645) fun r647 =>
           un_i r647 fun x648 r649 =>
           un_nil r649 <|
           out (fix_Mul 2 x648) fun r650 =>
           un_i r650 fun x651 r652 =>
           un_nil r652 <|
           chk (decide (Int.ofNat (List.length x643) = Int.ofNat (List.length x643)) && true && true) <|
           some [.li (x643), .li (x645), .i (t_s), .i (t_x), .i (t_loss), .i (t_rtt), .b (t_heard), .i (t_doubled), .b (t_began), .b (t_started), .i (t_due), .i (x651)])
          (chk (decide (Int.ofNat (List.length t_set_l0) = Int.ofNat (List.length t_set_l0)) && true && true) <|
           out (rset_Update t_set_l0 t_set_l1 x now t_rtt) fun r653 =>
           un_li r653 fun x654 r655 =>
           un_li r655 fun x656 r657 =>
           un_nil r657 <|
           chk (decide (Int.ofNat (List.length x654) = Int.ofNat (List.length x654)) && true && true) <|
           out (rset_Max x654 x656) fun r658 =>
           un_i r658 fun x659 r660 =>
           un_nil r660 <|
           out (fix_Mul 2 x659) fun r661 =>
           un_i r661 fun x662 r663 =>
           un_nil r663 <|
           chk (decide (Int.ofNat (List.length x654) = Int.ofNat (List.length x654)) && true && true) <|
           some [.li (x654), .li (x656), .i (t_s), .i (t_x), .i (t_loss), .i (t_rtt), .b (t_heard), .i (t_doubled), .b (t_began), .b (t_started), .i (t_due), .i (x662)])))
    (br (limited)
       (chk (decide (Int.ofNat (List.length t_set_l0) = Int.ofNat (List.length t_set_l0)) && true && true) <|
        out (rset_Maximize t_set_l0 t_set_l1 x now) fun r664 =>
        un_li r664 fun x665 r666 =>
        un_li r666 fun x667 r668 =>
        un_nil r668 <|
        chk (decide (Int.ofNat (List.length x665) = Int.ofNat (List.length x665)) && true && true) <|
        out (rset_Max x665 x667) fun r669 =>
        un_i r669 fun x670 r671 =>
        un_nil r671 <|
        out (fix_Mul 2 x670) fun r672 =>
        un_i r672 fun x673 r674 =>
        un_nil r674 <|
        chk (decide (Int.ofNat (List.length x665) = Int.ofNat (List.length x665)) && true && true) <|
        some [.li (x665), .li (x667), .i (t_s), .i (t_x), .i (t_loss), .i (t_rtt), .b (t_heard), .i (t_doubled), .b (t_began), .b (t_started), .i (t_due), .i (x673)])
       (chk (decide (Int.ofNat (List.length t_set_l0) = Int.ofNat (List.length t_set_l0)) && true && true) <|
        out (rset_Update t_set_l0 t_set_l1 x now t_rtt) fun r675 =>
        un_li r675 fun x676 r677 =>
        un_li r677 fun x678 r679 =>
        un_nil r679 <|
        chk (decide (Int.ofNat (List.length x676) = Int.ofNat (List.length x676)) && true && true) <|
        out (rset_Max x676 x678) fun r680 =>
        un_i r680 fun x681 r682 =>
        un_nil r682 <|
        out (fix_Mul 2 x681) fun r683 =>
        un_i r683 fun x684 r685 =>
        un_nil r685 <|
        chk (decide (Int.ofNat (List.length x676) = Int.ofNat (List.length x676)) && true && true) <|
        some [.li (x676), .li (x678), .i (t_s), .i (t_x), .i (t_loss), .i (t_rtt), .b (t_heard), .i (t_doubled), .b (t_began), .b (t_started), .i (t_due), .i (x684)]))
def tfrc_waits (t_set_l0 : List Int) (t_set_l1 : List Int) (t_s : Int) (t_x : Int) (t_loss : Int) (t_rtt : Int) (t_heard : Bool) (t_doubled : Int) (t_began : Bool) (t_started : Bool) (t_due : Int) (now : Int) : Option (List Leaf) :=
  one (minI now 4611686018427387904) fun x686 =>
  one (mulI .i64 4 t_rtt) fun x687 =>
  one (mulI .u64 128 t_s) fun x688 =>
  out (fix_MulDiv x688 1000000 t_x) fun r689 =>
  un_i r689 fun x690 r691 =>
  un_nil r691 <|
  one (wrapI .i64 x690) fun x692 =>
  one (maxI x687 x692) fun x693 =>
  one (addI .i64 x686 x693) fun x694 =>
  chk (decide (Int.ofNat (List.length t_set_l0) = Int.ofNat (List.length t_set_l0)) && true && true) <|
  some [.li (t_set_l0), .li (t_set_l1), .i (t_s), .i (t_x), .i (t_loss), .i (t_rtt), .b (t_heard), .i (t_doubled), .b (t_began), .b (true), .i (x694)]
def tfrc_Hear (t_set_l0 : List Int) (t_set_l1 : List Int) (t_s : Int) (t_x : Int) (t_loss : Int) (t_rtt : Int) (t_heard : Bool) (t_doubled : Int) (t_began : Bool) (t_started : Bool) (t_due : Int) (now : Int) (sample : Int) (x : Int) (p : Int) (limited : Bool) : Option (List Leaf) :=
  one (maxI now 0) fun x695 =>
  one (minI x695 4611686018427387904) fun x696 =>
  one (maxI sample 1) fun x697 =>
  one (minI x697 4294967296) fun x698 =>
  one (minI x 1125899906842624) fun x699 =>
  one (minI p 4294967296) fun x700 =>
  br (!t_heard)
    (chk (decide (Int.ofNat (List.length t_set_l0) = Int.ofNat (List.length t_set_l0)) && true && true) <|
     out (tfrc_begin t_set_l0 t_set_l1 t_s t_x t_loss x698 true t_doubled t_began t_started t_due) fun r701 =>
     un_i r701 fun x702 r703 =>
     un_nil r703 <|
     chk (decide (Int.ofNat (List.length t_set_l0) = Int.ofNat (List.length t_set_l0)) && true && true) <|
     out (tfrc_limit t_set_l0 t_set_l1 t_s x702 t_loss x698 true x696 t_began t_started t_due x696 x699 x700 limited) fun r704 =>
     un_li r704 fun x705 r706 =>
     un_li r706 fun x707 r708 =>
     un_i r708 fun x709 r710 =>
     un_i r710 fun x711 r712 =>
     un_i r712 fun x713 r714 =>
     un_i r714 fun x715 r716 =>
     un_b r716 fun x717 r718 =>
     un_i r718 fun x719 r720 =>
     un_b r720 fun x721 r722 =>
     un_b r722 fun x723 r724 =>
     un_i r724 fun x725 r726 =>
     un_i r726 fun x727 r728 =>
     un_nil r728 <|
     br (decide (x700 > 0))
       (one (wrapI .u64 x715) fun x729 =>
        out (eqn_Rate x709 x729 x700) fun r730 =>
        un_i r730 fun x731 r732 =>
        un_nil r732 <|
        one (minI x731 x727) fun x733 =>
        one (maxI x733 x709) fun x734 =>
        chk (decide (Int.ofNat (List.length x705) = Int.ofNat (List.length x705)) && true && true) <|
        out (tfrc_waits x705 x707 x709 x734 x700 x715 x717 x719 x721 x723 x725 x696) fun r735 =>
        un_li r735 fun x736 r737 =>
        un_li r737 fun x738 r739 =>
        un_i r739 fun x740 r741 =>
        un_i r741 fun x742 r743 =>
        un_i r743 fun x744 r745 =>
        un_i r745 fun x746 r747 =>
        un_b r747 fun x748 r749 =>
        un_i r749 fun x750 r751 =>
        un_b r751 fun x752 r753 =>
        un_b r753 fun x754 r755 =>
        un_i r755 fun x756 r757 =>
        un_nil r757 <|
        chk (decide (Int.ofNat (List.length x736) = Int.ofNat (List.length x736)) && true && true) <|
        some [.li (x736), .li (x738), .i (x740), .i (x742), .i (x744), .i (x746), .b (x748), .i (x750), .b (x752), .b (x754), .i (x756)])
       (br (!!t_heard)
          (one (addI .i64 x719 x715) fun x758 =>
           br (decide (x696 ≥ x758))
             (out (fix_Mul 2 x711) fun r759 =>
              un_i r759 fun x760 r761 =>
              un_nil r761 <|
              one (minI x760 x727) fun x762 =>
              chk (decide (Int.ofNat (List.length x705) = Int.ofNat (List.length x705)) && true && true) <|
              out (tfrc_begin x705 x707 x709 x711 x700 x715 x717 x719 x721 x723 x725) fun r763 =>
              un_i r763 fun x764 r765 =>
              un_nil r765 <|
              one (maxI x762 x764) fun x766 =>
              one (maxI x766 x709) fun x767 =>
              chk (decide (Int.ofNat (List.length x705) = Int.ofNat (List.length x705)) && true && true) <|
              out (tfrc_waits x705 x707 x709 x767 x700 x715 x717 x696 x721 x723 x725 x696) fun r768 =>
              un_li r768 fun x769 r770 =>
              un_li r770 fun x771 r772 =>
              un_i r772 fun x773 r774 =>
              un_i r774 fun x775 r776 =>
              un_i r776 fun x777 r778 =>
              un_i r778 fun x779 r780 =>
              un_b r780 fun x781 r782 =>
              un_i r782 fun x783 r784 =>
              un_b r784 fun x785 r786 =>
              un_b r786 fun x787 r788 =>
              un_i r788 fun x789 r790 =>
              un_nil r790 <|
              chk (decide (Int.ofNat (List.length x769) = Int.ofNat (List.length x769)) && true && true) <|
              some [.li (x769), .li (x771), .i (x773), .i (x775), .i (x777), .i (x779), .b (x781), .i (x783), .b (x785), .b (x787), .i (x789)])
             (one (maxI x711 x709) fun x791 =>
              chk (decide (Int.ofNat (List.length x705) = Int.ofNat (List.length x705)) && true && true) <|
              out (tfrc_waits x705 x707 x709 x791 x700 x715 x717 x719 x721 x723 x725 x696) fun r792 =>
              un_li r792 fun x793 r794 =>
              un_li r794 fun x795 r796 =>
              un_i r796 fun x797 r798 =>
              un_i r798 fun x799 r800 =>
              un_i r800 fun x801 r802 =>
              un_i r802 fun x803 r804 =>
              un_b r804 fun x805 r806 =>
              un_i r806 fun x807 r808 =>
              un_b r808 fun x809 r810 =>
              un_b r810 fun x811 r812 =>
              un_i r812 fun x813 r814 =>
              un_nil r814 <|
              chk (decide (Int.ofNat (List.length x793) = Int.ofNat (List.length x793)) && true && true) <|
              some [.li (x793), .li (x795), .i (x797), .i (x799), .i (x801), .i (x803), .b (x805), .i (x807), .b (x809), .b (x811), .i (x813)]))
          (one (maxI x711 x709) fun x815 =>
           chk (decide (Int.ofNat (List.length x705) = Int.ofNat (List.length x705)) && true && true) <|
           out (tfrc_waits x705 x707 x709 x815 x700 x715 x717 x719 x721 x723 x725 x696) fun r816 =>
           un_li r816 fun x817 r818 =>
           un_li r818 fun x819 r820 =>
           un_i r820 fun x821 r822 =>
           un_i r822 fun x823 r824 =>
           un_i r824 fun x825 r826 =>
           un_i r826 fun x827 r828 =>
           un_b r828 fun x829 r830 =>
           un_i r830 fun x831 r832 =>
           un_b r832 fun x833 r834 =>
           un_b r834 fun x835 r836 =>
           un_i r836 fun x837 r838 =>
           un_nil r838 <|
           chk (decide (Int.ofNat (List.length x817) = Int.ofNat (List.length x817)) && true && true) <|
           some [.li (x817), .li (x819), .i (x821), .i (x823), .i (x825), .i (x827), .b (x829), .i (x831), .b (x833), .b (x835), .i (x837)])))
    (one (mulI .i64 9 t_rtt) fun x839 =>
     one (addI .i64 x839 x698) fun x840 =>
     one (quoI .i64 x840 10) fun x841 =>
     chk (decide (Int.ofNat (List.length t_set_l0) = Int.ofNat (List.length t_set_l0)) && true && true) <|
     out (tfrc_limit t_set_l0 t_set_l1 t_s t_x t_loss x841 t_heard t_doubled t_began t_started t_due x696 x699 x700 limited) fun r842 =>
     un_li r842 fun x843 r844 =>
     un_li r844 fun x845 r846 =>
     un_i r846 fun x847 r848 =>
     un_i r848 fun x849 r850 =>
     un_i r850 fun x851 r852 =>
     un_i r852 fun x853 r854 =>
     un_b r854 fun x855 r856 =>
     un_i r856 fun x857 r858 =>
     un_b r858 fun x859 r860 =>
     un_b r860 fun x861 r862 =>
     un_i r862 fun x863 r864 =>
     un_i r864 fun x865 r866 =>
     un_nil r866 <|
     br (decide (x700 > 0))
       (one (wrapI .u64 x853) fun x867 =>
        out (eqn_Rate x847 x867 x700) fun r868 =>
        un_i r868 fun x869 r870 =>
        un_nil r870 <|
        one (minI x869 x865) fun x871 =>
        one (maxI x871 x847) fun x872 =>
        chk (decide (Int.ofNat (List.length x843) = Int.ofNat (List.length x843)) && true && true) <|
        out (tfrc_waits x843 x845 x847 x872 x700 x853 x855 x857 x859 x861 x863 x696) fun r873 =>
        un_li r873 fun x874 r875 =>
        un_li r875 fun x876 r877 =>
        un_i r877 fun x878 r879 =>
        un_i r879 fun x880 r881 =>
        un_i r881 fun x882 r883 =>
        un_i r883 fun x884 r885 =>
        un_b r885 fun x886 r887 =>
        un_i r887 fun x888 r889 =>
        un_b r889 fun x890 r891 =>
        un_b r891 fun x892 r893 =>
        un_i r893 fun x894 r895 =>
        un_nil r895 <|
        chk (decide (Int.ofNat (List.length x874) = Int.ofNat (List.length x874)) && true && true) <|
        some [.li (x874), .li (x876), .i (x878), .i (x880), .i (x882), .i (x884), .b (x886), .i (x888), .b (x890), .b (x892), .i (x894)])
       (br (!!t_heard)
          (one (addI .i64 x857 x853) fun x896 =>
           br (decide (x696 ≥ x896))
             (out (fix_Mul 2 x849) fun r897 =>
              un_i r897 fun x898 r899 =>
              un_nil r899 <|
              one (minI x898 x865) fun x900 =>
              chk (decide (Int.ofNat (List.length x843) = Int.ofNat (List.length x843)) && true && true) <|
              out (tfrc_begin x843 x845 x847 x849 x700 x853 x855 x857 x859 x861 x863) fun r901 =>
              un_i r901 fun x902 r903 =>
              un_nil r903 <|
              one (maxI x900 x902) fun x904 =>
              one (maxI x904 x847) fun x905 =>
              chk (decide (Int.ofNat (List.length x843) = Int.ofNat (List.length x843)) && true && true) <|
              out (tfrc_waits x843 x845 x847 x905 x700 x853 x855 x696 x859 x861 x863 x696) fun r906 =>
              un_li r906 fun x907 r908 =>
              un_li r908 fun x909 r910 =>
              un_i r910 fun x911 r912 =>
              un_i r912 fun x913 r914 =>
              un_i r914 fun x915 r916 =>
              un_i r916 fun x917 r918 =>
              un_b r918 fun x919 r920 =>
              un_i r920 fun x921 r922 =>
              un_b r922 fun x923 r924 =>
              un_b r924 fun x925 r926 =>
              un_i r926 fun x927 r928 =>
              un_nil r928 <|
              chk (decide (Int.ofNat (List.length x907) = Int.ofNat (List.length x907)) && true && true) <|
              some [.li (x907), .li (x909), .i (x911), .i (x913), .i (x915), .i (x917), .b (x919), .i (x921), .b (x923), .b (x925), .i (x927)])
             (one (maxI x849 x847) fun x929 =>
              chk (decide (Int.ofNat (List.length x843) = Int.ofNat (List.length x843)) && true && true) <|
              out (tfrc_waits x843 x845 x847 x929 x700 x853 x855 x857 x859 x861 x863 x696) fun r930 =>
              un_li r930 fun x931 r932 =>
              un_li r932 fun x933 r934 =>
              un_i r934 fun x935 r936 =>
              un_i r936 fun x937 r938 =>
              un_i r938 fun x939 r940 =>
              un_i r940 fun x941 r942 =>
              un_b r942 fun x943 r944 =>
              un_i r944 fun x945 r946 =>
              un_b r946 fun x947 r948 =>
              un_b r948 fun x949 r950 =>
              un_i r950 fun x951 r952 =>
              un_nil r952 <|
              chk (decide (Int.ofNat (List.length x931) = Int.ofNat (List.length x931)) && true && true) <|
              some [.li (x931), .li (x933), .i (x935), .i (x937), .i (x939), .i (x941), .b (x943), .i (x945), .b (x947), .b (x949), .i (x951)]))
          (one (maxI x849 x847) fun x953 =>
           chk (decide (Int.ofNat (List.length x843) = Int.ofNat (List.length x843)) && true && true) <|
           out (tfrc_waits x843 x845 x847 x953 x700 x853 x855 x857 x859 x861 x863 x696) fun r954 =>
           un_li r954 fun x955 r956 =>
           un_li r956 fun x957 r958 =>
           un_i r958 fun x959 r960 =>
           un_i r960 fun x961 r962 =>
           un_i r962 fun x963 r964 =>
           un_i r964 fun x965 r966 =>
           un_b r966 fun x967 r968 =>
           un_i r968 fun x969 r970 =>
           un_b r970 fun x971 r972 =>
           un_b r972 fun x973 r974 =>
           un_i r974 fun x975 r976 =>
           un_nil r976 <|
           chk (decide (Int.ofNat (List.length x955) = Int.ofNat (List.length x955)) && true && true) <|
           some [.li (x955), .li (x957), .i (x959), .i (x961), .i (x963), .i (x965), .b (x967), .i (x969), .b (x971), .b (x973), .i (x975)])))
def tfrc_Rate (t_set_l0 : List Int) (t_set_l1 : List Int) (t_s : Int) (t_x : Int) (t_loss : Int) (t_rtt : Int) (t_heard : Bool) (t_doubled : Int) (t_began : Bool) (t_started : Bool) (t_due : Int) : Option (List Leaf) :=
  some [.i (t_x)]
def tfrc_Rtt (t_set_l0 : List Int) (t_set_l1 : List Int) (t_s : Int) (t_x : Int) (t_loss : Int) (t_rtt : Int) (t_heard : Bool) (t_doubled : Int) (t_began : Bool) (t_started : Bool) (t_due : Int) : Option (List Leaf) :=
  some [.i (t_rtt)]
def tfrc_Start (t_set_l0 : List Int) (t_set_l1 : List Int) (t_s : Int) (t_x : Int) (t_loss : Int) (t_rtt : Int) (t_heard : Bool) (t_doubled : Int) (t_began : Bool) (t_started : Bool) (t_due : Int) (now : Int) : Option (List Leaf) :=
  br (!t_began)
    (one (minI now 4611686018427387904) fun x977 =>
     one (addI .i64 x977 2000000) fun x978 =>
     chk (decide (Int.ofNat (List.length t_set_l0) = Int.ofNat (List.length t_set_l0)) && true && true) <|
     some [.li (t_set_l0), .li (t_set_l1), .i (t_s), .i (t_x), .i (t_loss), .i (t_rtt), .b (t_heard), .i (t_doubled), .b (true), .b (true), .i (x978)])
    (chk (decide (Int.ofNat (List.length t_set_l0) = Int.ofNat (List.length t_set_l0)) && true && true) <|
     some [.li (t_set_l0), .li (t_set_l1), .i (t_s), .i (t_x), .i (t_loss), .i (t_rtt), .b (t_heard), .i (t_doubled), .b (t_began), .b (t_started), .i (t_due)])
def tfrc_Due (t_set_l0 : List Int) (t_set_l1 : List Int) (t_s : Int) (t_x : Int) (t_loss : Int) (t_rtt : Int) (t_heard : Bool) (t_doubled : Int) (t_began : Bool) (t_started : Bool) (t_due : Int) : Option (List Leaf) :=
  br (!t_started)
    (some [.i (0), .b (false)])
    (some [.i (t_due), .b (true)])
def tfrc_Fire (t_set_l0 : List Int) (t_set_l1 : List Int) (t_s : Int) (t_x : Int) (t_loss : Int) (t_rtt : Int) (t_heard : Bool) (t_doubled : Int) (t_began : Bool) (t_started : Bool) (t_due : Int) (now : Int) : Option (List Leaf) :=
  br (!t_started)
    (chk (decide (Int.ofNat (List.length t_set_l0) = Int.ofNat (List.length t_set_l0)) && true && true) <|
     some [.li (t_set_l0), .li (t_set_l1), .i (t_s), .i (t_x), .i (t_loss), .i (t_rtt), .b (t_heard), .i (t_doubled), .b (t_began), .b (t_started), .i (t_due), .b (false)])
    (one (minI now 4611686018427387904) fun x979 =>
     br (decide (x979 < t_due))
       (chk (decide (Int.ofNat (List.length t_set_l0) = Int.ofNat (List.length t_set_l0)) && true && true) <|
        some [.li (t_set_l0), .li (t_set_l1), .i (t_s), .i (t_x), .i (t_loss), .i (t_rtt), .b (t_heard), .i (t_doubled), .b (t_began), .b (t_started), .i (t_due), .b (false)])
       (one (quoI .u64 t_x 2) fun x980 =>
        one (maxI x980 t_s) fun x981 =>
        br (t_heard)
          (one (addI .u64 x981 1) fun x982 =>
           one (quoI .u64 x982 2) fun x983 =>
           chk (decide (Int.ofNat (List.length t_set_l0) = Int.ofNat (List.length t_set_l0)) && true && true) <|
           out (rset_Only t_set_l0 t_set_l1 x983 now) fun r984 =>
           un_li r984 fun x985 r986 =>
           un_li r986 fun x987 r988 =>
           un_nil r988 <|
           chk (decide (Int.ofNat (List.length x985) = Int.ofNat (List.length x985)) && true && true) <|
           out (tfrc_waits x985 x987 t_s x981 t_loss t_rtt t_heard t_doubled t_began t_started t_due now) fun r989 =>
           un_li r989 fun x990 r991 =>
           un_li r991 fun x992 r993 =>
           un_i r993 fun x994 r995 =>
           un_i r995 fun x996 r997 =>
           un_i r997 fun x998 r999 =>
           un_i r999 fun x1000 r1001 =>
           un_b r1001 fun x1002 r1003 =>
           un_i r1003 fun x1004 r1005 =>
           un_b r1005 fun x1006 r1007 =>
           un_b r1007 fun x1008 r1009 =>
           un_i r1009 fun x1010 r1011 =>
           un_nil r1011 <|
           chk (decide (Int.ofNat (List.length x990) = Int.ofNat (List.length x990)) && true && true) <|
           some [.li (x990), .li (x992), .i (x994), .i (x996), .i (x998), .i (x1000), .b (x1002), .i (x1004), .b (x1006), .b (decide (x996 > x994)), .i (x1010), .b (true)])
          (chk (decide (Int.ofNat (List.length t_set_l0) = Int.ofNat (List.length t_set_l0)) && true && true) <|
           out (tfrc_waits t_set_l0 t_set_l1 t_s x981 t_loss t_rtt t_heard t_doubled t_began t_started t_due now) fun r1012 =>
           un_li r1012 fun x1013 r1014 =>
           un_li r1014 fun x1015 r1016 =>
           un_i r1016 fun x1017 r1018 =>
           un_i r1018 fun x1019 r1020 =>
           un_i r1020 fun x1021 r1022 =>
           un_i r1022 fun x1023 r1024 =>
           un_b r1024 fun x1025 r1026 =>
           un_i r1026 fun x1027 r1028 =>
           un_b r1028 fun x1029 r1030 =>
           un_b r1030 fun x1031 r1032 =>
           un_i r1032 fun x1033 r1034 =>
           un_nil r1034 <|
           chk (decide (Int.ofNat (List.length x1013) = Int.ofNat (List.length x1013)) && true && true) <|
           some [.li (x1013), .li (x1015), .i (x1017), .i (x1019), .i (x1021), .i (x1023), .b (x1025), .i (x1027), .b (x1029), .b (decide (x1019 > x1017)), .i (x1033), .b (true)])))
end Go.Sx.T

