import Derived.Test.YtngjglbakgdgaaaGreatDoorYhSetSpec
import Derived.Test.YtngjglbakgdgaaaGreatDoorYFixSpec
set_option linter.all false
namespace Go.Sx.T
open Go Go.Sx
def tfrc_New (s : Int) : Option (List Leaf) :=
  br (decide (s < 1))
    (none)
    (br (decide (s > 1400))
       (none)
       (one (wrapI .u64 s) fun x676 =>
        one (wrapI .u64 s) fun x677 =>
        one (mulI .u64 64 x677) fun x678 =>
        out (rset_New) fun r679 =>
        un_li r679 fun x680 r681 =>
        un_li r681 fun x682 r683 =>
        un_nil r683 <|
        chk (decide (Int.ofNat (List.length x680) = Int.ofNat (List.length x680)) && true && true) <|
        some [.li (x680), .li (x682), .i (x676), .i (x678), .i (0), .i (0), .b (false), .i (0), .b (false), .b (false), .i (0)]))
def tfrc_begin (t_set_l0 : List Int) (t_set_l1 : List Int) (t_s : Int) (t_x : Int) (t_loss : Int) (t_rtt : Int) (t_heard : Bool) (t_doubled : Int) (t_began : Bool) (t_started : Bool) (t_due : Int) : Option (List Leaf) :=
  one (mulI .u64 4 t_s) fun x684 =>
  one (mulI .u64 2 t_s) fun x685 =>
  one (maxI x685 4380) fun x686 =>
  one (minI x684 x686) fun x687 =>
  one (mulI .u64 64 x687) fun x688 =>
  one (wrapI .u64 t_rtt) fun x689 =>
  out (fix_MulDiv x688 1000000 x689) fun r690 =>
  un_i r690 fun x691 r692 =>
  un_nil r692 <|
  some [.i (x691)]
def tfrc_limit (t_set_l0 : List Int) (t_set_l1 : List Int) (t_s : Int) (t_x : Int) (t_loss : Int) (t_rtt : Int) (t_heard : Bool) (t_doubled : Int) (t_began : Bool) (t_started : Bool) (t_due : Int) (now : Int) (x : Int) (p : Int) (limited : Bool) : Option (List Leaf) :=
  br (limited)
    (br (decide (p > t_loss))
       (chk (decide (Int.ofNat (List.length t_set_l0) = Int.ofNat (List.length t_set_l0)) && true && true) <|
        out (rset_Halve t_set_l0 t_set_l1) fun r693 =>
        un_li r693 fun x694 r695 =>
        un_li r695 fun x696 r697 =>
        un_nil r697 <|
        one (mulI .u64 x 17) fun x698 =>
        one (quoI .u64 x698 20) fun x699 =>
        chk (decide (Int.ofNat (List.length x694) = Int.ofNat (List.length x694)) && true && true) <|
        out (rset_Maximize x694 x696 x699 now) fun r700 =>
        un_li r700 fun x701 r702 =>
        un_li r702 fun x703 r704 =>
        un_nil r704 <|
        chk (decide (Int.ofNat (List.length x701) = Int.ofNat (List.length x701)) && true && true) <|
        out (rset_Max x701 x703) fun r705 =>
        un_i r705 fun x706 r707 =>
        un_nil r707 <|
        chk (decide (Int.ofNat (List.length x701) = Int.ofNat (List.length x701)) && true && true) <|
        some [.li (x701), .li (x703), .i (t_s), .i (t_x), .i (t_loss), .i (t_rtt), .b (t_heard), .i (t_doubled), .b (t_began), .b (t_started), .i (t_due), .i (x706)])
       (br (limited)
          (chk (decide (Int.ofNat (List.length t_set_l0) = Int.ofNat (List.length t_set_l0)) && true && true) <|
           out (rset_Maximize t_set_l0 t_set_l1 x now) fun r708 =>
           un_li r708 fun x709 r710 =>
           un_li r710 fun x711 r712 =>
           un_nil r712 <|
           chk (decide (Int.ofNat (List.length x709) = Int.ofNat (List.length x709)) && true && true) <|
           out (rset_Max x709 x711) fun r713 =>
           un_i r713 fun x714 r715 =>
           un_nil r715 <|
           out (fix_Mul 2 x714) fun r716 =>
           un_i r716 fun x717 r718 =>
           un_nil r718 <|
           chk (decide (Int.ofNat (List.length x709) = Int.ofNat (List.length x709)) && true && true) <|
           some [.li (x709), .li (x711), .i (t_s), .i (t_x), .i (t_loss), .i (t_rtt), .b (t_heard), .i (t_doubled), .b (t_began), .b (t_started), .i (t_due), .i (x717)])
          (chk (decide (Int.ofNat (List.length t_set_l0) = Int.ofNat (List.length t_set_l0)) && true && true) <|
           out (rset_Update t_set_l0 t_set_l1 x now t_rtt) fun r719 =>
           un_li r719 fun x720 r721 =>
           un_li r721 fun x722 r723 =>
           un_nil r723 <|
           chk (decide (Int.ofNat (List.length x720) = Int.ofNat (List.length x720)) && true && true) <|
           out (rset_Max x720 x722) fun r724 =>
           un_i r724 fun x725 r726 =>
           un_nil r726 <|
           out (fix_Mul 2 x725) fun r727 =>
           un_i r727 fun x728 r729 =>
           un_nil r729 <|
           chk (decide (Int.ofNat (List.length x720) = Int.ofNat (List.length x720)) && true && true) <|
           some [.li (x720), .li (x722), .i (t_s), .i (t_x), .i (t_loss), .i (t_rtt), .b (t_heard), .i (t_doubled), .b (t_began), .b (t_started), .i (t_due), .i (x728)])))
    (br (limited)
       (chk (decide (Int.ofNat (List.length t_set_l0) = Int.ofNat (List.length t_set_l0)) && true && true) <|
        out (rset_Maximize t_set_l0 t_set_l1 x now) fun r730 =>
        un_li r730 fun x731 r732 =>
        un_li r732 fun x733 r734 =>
        un_nil r734 <|
        chk (decide (Int.ofNat (List.length x731) = Int.ofNat (List.length x731)) && true && true) <|
        out (rset_Max x731 x733) fun r735 =>
        un_i r735 fun x736 r737 =>
        un_nil r737 <|
        out (fix_Mul 2 x736) fun r738 =>
        un_i r738 fun x739 r740 =>
        un_nil r740 <|
        chk (decide (Int.ofNat (List.length x731) = Int.ofNat (List.length x731)) && true && true) <|
        some [.li (x731), .li (x733), .i (t_s), .i (t_x), .i (t_loss), .i (t_rtt), .b (t_heard), .i (t_doubled), .b (t_began), .b (t_started), .i (t_due), .i (x739)])
       (chk (decide (Int.ofNat (List.length t_set_l0) = Int.ofNat (List.length t_set_l0)) && true && true) <|
        out (rset_Update t_set_l0 t_set_l1 x now t_rtt) fun r741 =>
        un_li r741 fun x742 r743 =>
        un_li r743 fun x744 r745 =>
        un_nil r745 <|
        chk (decide (Int.ofNat (List.length x742) = Int.ofNat (List.length x742)) && true && true) <|
        out (rset_Max x742 x744) fun r746 =>
        un_i r746 fun x747 r748 =>
        un_nil r748 <|
        out (fix_Mul 2 x747) fun r749 =>
        un_i r749 fun x750 r751 =>
        un_nil r751 <|
        chk (decide (Int.ofNat (List.length x742) = Int.ofNat (List.length x742)) && true && true) <|
        some [.li (x742), .li (x744), .i (t_s), .i (t_x), .i (t_loss), .i (t_rtt), .b (t_heard), .i (t_doubled), .b (t_began), .b (t_started), .i (t_due), .i (x750)]))
def tfrc_waits (t_set_l0 : List Int) (t_set_l1 : List Int) (t_s : Int) (t_x : Int) (t_loss : Int) (t_rtt : Int) (t_heard : Bool) (t_doubled : Int) (t_began : Bool) (t_started : Bool) (t_due : Int) (now : Int) : Option (List Leaf) :=
  one (minI now 4611686018427387904) fun x752 =>
  one (mulI .i64 4 t_rtt) fun x753 =>
  one (mulI .u64 128 t_s) fun x754 =>
  out (fix_MulDiv x754 1000000 t_x) fun r755 =>
  un_i r755 fun x756 r757 =>
  un_nil r757 <|
  one (wrapI .i64 x756) fun x758 =>
  one (maxI x753 x758) fun x759 =>
  one (addI .i64 x752 x759) fun x760 =>
  chk (decide (Int.ofNat (List.length t_set_l0) = Int.ofNat (List.length t_set_l0)) && true && true) <|
  some [.li (t_set_l0), .li (t_set_l1), .i (t_s), .i (t_x), .i (t_loss), .i (t_rtt), .b (t_heard), .i (t_doubled), .b (t_began), .b (true), .i (x760)]
def tfrc_Hear (t_set_l0 : List Int) (t_set_l1 : List Int) (t_s : Int) (t_x : Int) (t_loss : Int) (t_rtt : Int) (t_heard : Bool) (t_doubled : Int) (t_began : Bool) (t_started : Bool) (t_due : Int) (now : Int) (sample : Int) (x : Int) (p : Int) (limited : Bool) : Option (List Leaf) :=
  one (maxI now 0) fun x761 =>
  one (minI x761 4611686018427387904) fun x762 =>
  one (maxI sample 1) fun x763 =>
  one (minI x763 4294967296) fun x764 =>
  one (minI x 1125899906842624) fun x765 =>
  one (minI p 4294967296) fun x766 =>
  br (!t_heard)
    (chk (decide (Int.ofNat (List.length t_set_l0) = Int.ofNat (List.length t_set_l0)) && true && true) <|
     out (tfrc_begin t_set_l0 t_set_l1 t_s t_x t_loss x764 true t_doubled t_began t_started t_due) fun r767 =>
     un_i r767 fun x768 r769 =>
     un_nil r769 <|
     chk (decide (Int.ofNat (List.length t_set_l0) = Int.ofNat (List.length t_set_l0)) && true && true) <|
     out (tfrc_limit t_set_l0 t_set_l1 t_s x768 t_loss x764 true x762 t_began t_started t_due x762 x765 x766 limited) fun r770 =>
     un_li r770 fun x771 r772 =>
     un_li r772 fun x773 r774 =>
     un_i r774 fun x775 r776 =>
     un_i r776 fun x777 r778 =>
     un_i r778 fun x779 r780 =>
     un_i r780 fun x781 r782 =>
     un_b r782 fun x783 r784 =>
     un_i r784 fun x785 r786 =>
     un_b r786 fun x787 r788 =>
     un_b r788 fun x789 r790 =>
     un_i r790 fun x791 r792 =>
     un_i r792 fun x793 r794 =>
     un_nil r794 <|
     br (decide (x766 > 0))
       (one (wrapI .u64 x781) fun x795 =>
        out (eqn_Rate x775 x795 x766) fun r796 =>
        un_i r796 fun x797 r798 =>
        un_nil r798 <|
        one (minI x797 x793) fun x799 =>
        one (maxI x799 x775) fun x800 =>
        chk (decide (Int.ofNat (List.length x771) = Int.ofNat (List.length x771)) && true && true) <|
        out (tfrc_waits x771 x773 x775 x800 x766 x781 x783 x785 x787 x789 x791 x762) fun r801 =>
        un_li r801 fun x802 r803 =>
        un_li r803 fun x804 r805 =>
        un_i r805 fun x806 r807 =>
        un_i r807 fun x808 r809 =>
        un_i r809 fun x810 r811 =>
        un_i r811 fun x812 r813 =>
        un_b r813 fun x814 r815 =>
        un_i r815 fun x816 r817 =>
        un_b r817 fun x818 r819 =>
        un_b r819 fun x820 r821 =>
        un_i r821 fun x822 r823 =>
        un_nil r823 <|
        chk (decide (Int.ofNat (List.length x802) = Int.ofNat (List.length x802)) && true && true) <|
        some [.li (x802), .li (x804), .i (x806), .i (x808), .i (x810), .i (x812), .b (x814), .i (x816), .b (x818), .b (x820), .i (x822)])
       (br (!!t_heard)
          (one (addI .i64 x785 x781) fun x824 =>
           br (decide (x762 ≥ x824))
             (out (fix_Mul 2 x777) fun r825 =>
              un_i r825 fun x826 r827 =>
              un_nil r827 <|
              one (minI x826 x793) fun x828 =>
              chk (decide (Int.ofNat (List.length x771) = Int.ofNat (List.length x771)) && true && true) <|
              out (tfrc_begin x771 x773 x775 x777 x766 x781 x783 x785 x787 x789 x791) fun r829 =>
              un_i r829 fun x830 r831 =>
              un_nil r831 <|
              one (maxI x828 x830) fun x832 =>
              one (maxI x832 x775) fun x833 =>
              chk (decide (Int.ofNat (List.length x771) = Int.ofNat (List.length x771)) && true && true) <|
              out (tfrc_waits x771 x773 x775 x833 x766 x781 x783 x762 x787 x789 x791 x762) fun r834 =>
              un_li r834 fun x835 r836 =>
              un_li r836 fun x837 r838 =>
              un_i r838 fun x839 r840 =>
              un_i r840 fun x841 r842 =>
              un_i r842 fun x843 r844 =>
              un_i r844 fun x845 r846 =>
              un_b r846 fun x847 r848 =>
              un_i r848 fun x849 r850 =>
              un_b r850 fun x851 r852 =>
              un_b r852 fun x853 r854 =>
              un_i r854 fun x855 r856 =>
              un_nil r856 <|
              chk (decide (Int.ofNat (List.length x835) = Int.ofNat (List.length x835)) && true && true) <|
              some [.li (x835), .li (x837), .i (x839), .i (x841), .i (x843), .i (x845), .b (x847), .i (x849), .b (x851), .b (x853), .i (x855)])
             (one (maxI x777 x775) fun x857 =>
              chk (decide (Int.ofNat (List.length x771) = Int.ofNat (List.length x771)) && true && true) <|
              out (tfrc_waits x771 x773 x775 x857 x766 x781 x783 x785 x787 x789 x791 x762) fun r858 =>
              un_li r858 fun x859 r860 =>
              un_li r860 fun x861 r862 =>
              un_i r862 fun x863 r864 =>
              un_i r864 fun x865 r866 =>
              un_i r866 fun x867 r868 =>
              un_i r868 fun x869 r870 =>
              un_b r870 fun x871 r872 =>
              un_i r872 fun x873 r874 =>
              un_b r874 fun x875 r876 =>
              un_b r876 fun x877 r878 =>
              un_i r878 fun x879 r880 =>
              un_nil r880 <|
              chk (decide (Int.ofNat (List.length x859) = Int.ofNat (List.length x859)) && true && true) <|
              some [.li (x859), .li (x861), .i (x863), .i (x865), .i (x867), .i (x869), .b (x871), .i (x873), .b (x875), .b (x877), .i (x879)]))
          (one (maxI x777 x775) fun x881 =>
           chk (decide (Int.ofNat (List.length x771) = Int.ofNat (List.length x771)) && true && true) <|
           out (tfrc_waits x771 x773 x775 x881 x766 x781 x783 x785 x787 x789 x791 x762) fun r882 =>
           un_li r882 fun x883 r884 =>
           un_li r884 fun x885 r886 =>
           un_i r886 fun x887 r888 =>
           un_i r888 fun x889 r890 =>
           un_i r890 fun x891 r892 =>
           un_i r892 fun x893 r894 =>
           un_b r894 fun x895 r896 =>
           un_i r896 fun x897 r898 =>
           un_b r898 fun x899 r900 =>
           un_b r900 fun x901 r902 =>
           un_i r902 fun x903 r904 =>
           un_nil r904 <|
           chk (decide (Int.ofNat (List.length x883) = Int.ofNat (List.length x883)) && true && true) <|
           some [.li (x883), .li (x885), .i (x887), .i (x889), .i (x891), .i (x893), .b (x895), .i (x897), .b (x899), .b (x901), .i (x903)])))
    (one (mulI .i64 9 t_rtt) fun x905 =>
     one (addI .i64 x905 x764) fun x906 =>
     one (quoI .i64 x906 10) fun x907 =>
     chk (decide (Int.ofNat (List.length t_set_l0) = Int.ofNat (List.length t_set_l0)) && true && true) <|
     out (tfrc_limit t_set_l0 t_set_l1 t_s t_x t_loss x907 t_heard t_doubled t_began t_started t_due x762 x765 x766 limited) fun r908 =>
     un_li r908 fun x909 r910 =>
     un_li r910 fun x911 r912 =>
     un_i r912 fun x913 r914 =>
     un_i r914 fun x915 r916 =>
     un_i r916 fun x917 r918 =>
     un_i r918 fun x919 r920 =>
     un_b r920 fun x921 r922 =>
     un_i r922 fun x923 r924 =>
     un_b r924 fun x925 r926 =>
     un_b r926 fun x927 r928 =>
     un_i r928 fun x929 r930 =>
     un_i r930 fun x931 r932 =>
     un_nil r932 <|
     br (decide (x766 > 0))
       (one (wrapI .u64 x919) fun x933 =>
        out (eqn_Rate x913 x933 x766) fun r934 =>
        un_i r934 fun x935 r936 =>
        un_nil r936 <|
        one (minI x935 x931) fun x937 =>
        one (maxI x937 x913) fun x938 =>
        chk (decide (Int.ofNat (List.length x909) = Int.ofNat (List.length x909)) && true && true) <|
        out (tfrc_waits x909 x911 x913 x938 x766 x919 x921 x923 x925 x927 x929 x762) fun r939 =>
        un_li r939 fun x940 r941 =>
        un_li r941 fun x942 r943 =>
        un_i r943 fun x944 r945 =>
        un_i r945 fun x946 r947 =>
        un_i r947 fun x948 r949 =>
        un_i r949 fun x950 r951 =>
        un_b r951 fun x952 r953 =>
        un_i r953 fun x954 r955 =>
        un_b r955 fun x956 r957 =>
        un_b r957 fun x958 r959 =>
        un_i r959 fun x960 r961 =>
        un_nil r961 <|
        chk (decide (Int.ofNat (List.length x940) = Int.ofNat (List.length x940)) && true && true) <|
        some [.li (x940), .li (x942), .i (x944), .i (x946), .i (x948), .i (x950), .b (x952), .i (x954), .b (x956), .b (x958), .i (x960)])
       (br (!!t_heard)
          (one (addI .i64 x923 x919) fun x962 =>
           br (decide (x762 ≥ x962))
             (out (fix_Mul 2 x915) fun r963 =>
              un_i r963 fun x964 r965 =>
              un_nil r965 <|
              one (minI x964 x931) fun x966 =>
              chk (decide (Int.ofNat (List.length x909) = Int.ofNat (List.length x909)) && true && true) <|
              out (tfrc_begin x909 x911 x913 x915 x766 x919 x921 x923 x925 x927 x929) fun r967 =>
              un_i r967 fun x968 r969 =>
              un_nil r969 <|
              one (maxI x966 x968) fun x970 =>
              one (maxI x970 x913) fun x971 =>
              chk (decide (Int.ofNat (List.length x909) = Int.ofNat (List.length x909)) && true && true) <|
              out (tfrc_waits x909 x911 x913 x971 x766 x919 x921 x762 x925 x927 x929 x762) fun r972 =>
              un_li r972 fun x973 r974 =>
              un_li r974 fun x975 r976 =>
              un_i r976 fun x977 r978 =>
              un_i r978 fun x979 r980 =>
              un_i r980 fun x981 r982 =>
              un_i r982 fun x983 r984 =>
              un_b r984 fun x985 r986 =>
              un_i r986 fun x987 r988 =>
              un_b r988 fun x989 r990 =>
              un_b r990 fun x991 r992 =>
              un_i r992 fun x993 r994 =>
              un_nil r994 <|
              chk (decide (Int.ofNat (List.length x973) = Int.ofNat (List.length x973)) && true && true) <|
              some [.li (x973), .li (x975), .i (x977), .i (x979), .i (x981), .i (x983), .b (x985), .i (x987), .b (x989), .b (x991), .i (x993)])
             (one (maxI x915 x913) fun x995 =>
              chk (decide (Int.ofNat (List.length x909) = Int.ofNat (List.length x909)) && true && true) <|
              out (tfrc_waits x909 x911 x913 x995 x766 x919 x921 x923 x925 x927 x929 x762) fun r996 =>
              un_li r996 fun x997 r998 =>
              un_li r998 fun x999 r1000 =>
              un_i r1000 fun x1001 r1002 =>
              un_i r1002 fun x1003 r1004 =>
              un_i r1004 fun x1005 r1006 =>
              un_i r1006 fun x1007 r1008 =>
              un_b r1008 fun x1009 r1010 =>
              un_i r1010 fun x1011 r1012 =>
              un_b r1012 fun x1013 r1014 =>
              un_b r1014 fun x1015 r1016 =>
              un_i r1016 fun x1017 r1018 =>
              un_nil r1018 <|
              chk (decide (Int.ofNat (List.length x997) = Int.ofNat (List.length x997)) && true && true) <|
              some [.li (x997), .li (x999), .i (x1001), .i (x1003), .i (x1005), .i (x1007), .b (x1009), .i (x1011), .b (x1013), .b (x1015), .i (x1017)]))
          (one (maxI x915 x913) fun x1019 =>
           chk (decide (Int.ofNat (List.length x909) = Int.ofNat (List.length x909)) && true && true) <|
           out (tfrc_waits x909 x911 x913 x1019 x766 x919 x921 x923 x925 x927 x929 x762) fun r1020 =>
           un_li r1020 fun x1021 r1022 =>
           un_li r1022 fun x1023 r1024 =>
           un_i r1024 fun x1025 r1026 =>
           un_i r1026 fun x1027 r1028 =>
           un_i r1028 fun x1029 r1030 =>
           un_i r1030 fun x1031 r1032 =>
           un_b r1032 fun x1033 r1034 =>
           un_i r1034 fun x1035 r1036 =>
           un_b r1036 fun x1037 r1038 =>
           un_b r1038 fun x1039 r1040 =>
           un_i r1040 fun x1041 r1042 =>
           un_nil r1042 <|
           chk (decide (Int.ofNat (List.length x1021) = Int.ofNat (List.length x1021)) && true && true) <|
           some [.li (x1021), .li (x1023), .i (x1025), .i (x1027), .i (x1029), .i (x1031), .b (x1033), .i (x1035), .b (x1037), .b (x1039), .i (x1041)])))
def tfrc_Rate (t_set_l0 : List Int) (t_set_l1 : List Int) (t_s : Int) (t_x : Int) (t_loss : Int) (t_rtt : Int) (t_heard : Bool) (t_doubled : Int) (t_began : Bool) (t_started : Bool) (t_due : Int) : Option (List Leaf) :=
  some [.i (t_x)]
def tfrc_Loss (t_set_l0 : List Int) (t_set_l1 : List Int) (t_s : Int) (t_x : Int) (t_loss : Int) (t_rtt : Int) (t_heard : Bool) (t_doubled : Int) (t_began : Bool) (t_started : Bool) (t_due : Int) : Option (List Leaf) :=
  some [.i (t_loss)]
def tfrc_Rtt (t_set_l0 : List Int) (t_set_l1 : List Int) (t_s : Int) (t_x : Int) (t_loss : Int) (t_rtt : Int) (t_heard : Bool) (t_doubled : Int) (t_began : Bool) (t_started : Bool) (t_due : Int) : Option (List Leaf) :=
  some [.i (t_rtt)]
end Go.Sx.T

