import Derived.Test.YtngjglbakgdgaaaGreatDoorYnSetSpec
import Derived.Test.YtngjglbakgdgaaaGreatDoorYFixSpec
set_option linter.all false
namespace Go.Sx.T
open Go Go.Sx
def tfrc_New (s : Int) : Option (List Leaf) :=
  br (decide (s < 1))
    (none)
    (br (decide (s > 1400))
       (none)
       (one (wrapI .u64 s) fun x698 =>
        one (wrapI .u64 s) fun x699 =>
        one (mulI .u64 64 x699) fun x700 =>
        out (rset_New) fun r701 =>
        un_li r701 fun x702 r703 =>
        un_li r703 fun x704 r705 =>
        un_nil r705 <|
        chk (decide (Int.ofNat (List.length x702) = Int.ofNat (List.length x702)) && true && true) <|
        some [.li (x702), .li (x704), .i (x698), .i (x700), .i (0), .i (0), .b (false), .i (0), .b (false), .b (false), .i (0)]))
def tfrc_begin (t_set_l0 : List Int) (t_set_l1 : List Int) (t_s : Int) (t_x : Int) (t_loss : Int) (t_rtt : Int) (t_heard : Bool) (t_doubled : Int) (t_began : Bool) (t_started : Bool) (t_due : Int) : Option (List Leaf) :=
  one (mulI .u64 4 t_s) fun x706 =>
  one (mulI .u64 2 t_s) fun x707 =>
  one (maxI x707 4380) fun x708 =>
  one (minI x706 x708) fun x709 =>
  one (mulI .u64 64 x709) fun x710 =>
  one (wrapI .u64 t_rtt) fun x711 =>
  out (fix_MulDiv x710 1000000 x711) fun r712 =>
  un_i r712 fun x713 r714 =>
  un_nil r714 <|
  some [.i (x713)]
def tfrc_limit (t_set_l0 : List Int) (t_set_l1 : List Int) (t_s : Int) (t_x : Int) (t_loss : Int) (t_rtt : Int) (t_heard : Bool) (t_doubled : Int) (t_began : Bool) (t_started : Bool) (t_due : Int) (now : Int) (x : Int) (p : Int) (limited : Bool) : Option (List Leaf) :=
  br (limited)
    (br (decide (p > t_loss))
       (chk (decide (Int.ofNat (List.length t_set_l0) = Int.ofNat (List.length t_set_l0)) && true && true) <|
        out (rset_Halve t_set_l0 t_set_l1) fun r715 =>
        un_li r715 fun x716 r717 =>
        un_li r717 fun x718 r719 =>
        un_nil r719 <|
        one (mulI .u64 x 17) fun x720 =>
        one (quoI .u64 x720 20) fun x721 =>
        chk (decide (Int.ofNat (List.length x716) = Int.ofNat (List.length x716)) && true && true) <|
        out (rset_Maximize x716 x718 x721 now) fun r722 =>
        un_li r722 fun x723 r724 =>
        un_li r724 fun x725 r726 =>
        un_nil r726 <|
        chk (decide (Int.ofNat (List.length x723) = Int.ofNat (List.length x723)) && true && true) <|
        out (rset_Max x723 x725) fun r727 =>
        un_i r727 fun x728 r729 =>
        un_nil r729 <|
        chk (decide (Int.ofNat (List.length x723) = Int.ofNat (List.length x723)) && true && true) <|
        some [.li (x723), .li (x725), .i (t_s), .i (t_x), .i (t_loss), .i (t_rtt), .b (t_heard), .i (t_doubled), .b (t_began), .b (t_started), .i (t_due), .i (x728)])
       (br (limited)
          (chk (decide (Int.ofNat (List.length t_set_l0) = Int.ofNat (List.length t_set_l0)) && true && true) <|
           out (rset_Maximize t_set_l0 t_set_l1 x now) fun r730 =>
           un_li r730 fun x731 r732 =>
           un_li r732 fun x733 r734 =>
           un_nil r734 <|
           chk (decide (Int.ofNat (List.length x731) = Int.ofNat (List.length x731)) && true && true) <|
           out (rset_Max x731 x733) fun r735 =>
           un_i r735 fun x736 r737 =>
           un_nil r737 <|
           out (fix_Mul 2 x736) fun r738 =>
           un_i r738 fun x739 r740 =>
           un_nil r740 <|
           chk (decide (Int.ofNat (List.length x731) = Int.ofNat (List.length x731)) && true && true) <|
           some [.li (x731), .li (x733), .i (t_s), .i (t_x), .i (t_loss), .i (t_rtt), .b (t_heard), .i (t_doubled), .b (t_began), .b (t_started), .i (t_due), .i (x739)])
          (chk (decide (Int.ofNat (List.length t_set_l0) = Int.ofNat (List.length t_set_l0)) && true && true) <|
           out (rset_Update t_set_l0 t_set_l1 x now t_rtt) fun r741 =>
           un_li r741 fun x742 r743 =>
           un_li r743 fun x744 r745 =>
           un_nil r745 <|
           chk (decide (Int.ofNat (List.length x742) = Int.ofNat (List.length x742)) && true && true) <|
           out (rset_Max x742 x744) fun r746 =>
           un_i r746 fun x747 r748 =>
           un_nil r748 <|
           out (fix_Mul 2 x747) fun r749 =>
           un_i r749 fun x750 r751 =>
           un_nil r751 <|
           chk (decide (Int.ofNat (List.length x742) = Int.ofNat (List.length x742)) && true && true) <|
           some [.li (x742), .li (x744), .i (t_s), .i (t_x), .i (t_loss), .i (t_rtt), .b (t_heard), .i (t_doubled), .b (t_began), .b (t_started), .i (t_due), .i (x750)])))
    (br (limited)
       (chk (decide (Int.ofNat (List.length t_set_l0) = Int.ofNat (List.length t_set_l0)) && true && true) <|
        out (rset_Maximize t_set_l0 t_set_l1 x now) fun r752 =>
        un_li r752 fun x753 r754 =>
        un_li r754 fun x755 r756 =>
        un_nil r756 <|
        chk (decide (Int.ofNat (List.length x753) = Int.ofNat (List.length x753)) && true && true) <|
        out (rset_Max x753 x755) fun r757 =>
        un_i r757 fun x758 r759 =>
        un_nil r759 <|
        out (fix_Mul 2 x758) fun r760 =>
        un_i r760 fun x761 r762 =>
        un_nil r762 <|
        chk (decide (Int.ofNat (List.length x753) = Int.ofNat (List.length x753)) && true && true) <|
        some [.li (x753), .li (x755), .i (t_s), .i (t_x), .i (t_loss), .i (t_rtt), .b (t_heard), .i (t_doubled), .b (t_began), .b (t_started), .i (t_due), .i (x761)])
       (chk (decide (Int.ofNat (List.length t_set_l0) = Int.ofNat (List.length t_set_l0)) && true && true) <|
        out (rset_Update t_set_l0 t_set_l1 x now t_rtt) fun r763 =>
        un_li r763 fun x764 r765 =>
        un_li r765 fun x766 r767 =>
        un_nil r767 <|
        chk (decide (Int.ofNat (List.length x764) = Int.ofNat (List.length x764)) && true && true) <|
        out (rset_Max x764 x766) fun r768 =>
        un_i r768 fun x769 r770 =>
        un_nil r770 <|
        out (fix_Mul 2 x769) fun r771 =>
        un_i r771 fun x772 r773 =>
        un_nil r773 <|
        chk (decide (Int.ofNat (List.length x764) = Int.ofNat (List.length x764)) && true && true) <|
        some [.li (x764), .li (x766), .i (t_s), .i (t_x), .i (t_loss), .i (t_rtt), .b (t_heard), .i (t_doubled), .b (t_began), .b (t_started), .i (t_due), .i (x772)]))
def tfrc_waits (t_set_l0 : List Int) (t_set_l1 : List Int) (t_s : Int) (t_x : Int) (t_loss : Int) (t_rtt : Int) (t_heard : Bool) (t_doubled : Int) (t_began : Bool) (t_started : Bool) (t_due : Int) (now : Int) : Option (List Leaf) :=
  one (minI now 4611686018427387904) fun x774 =>
  one (mulI .i64 4 t_rtt) fun x775 =>
  one (mulI .u64 128 t_s) fun x776 =>
  out (fix_MulDiv x776 1000000 t_x) fun r777 =>
  un_i r777 fun x778 r779 =>
  un_nil r779 <|
  one (wrapI .i64 x778) fun x780 =>
  one (maxI x775 x780) fun x781 =>
  one (addI .i64 x774 x781) fun x782 =>
  chk (decide (Int.ofNat (List.length t_set_l0) = Int.ofNat (List.length t_set_l0)) && true && true) <|
  some [.li (t_set_l0), .li (t_set_l1), .i (t_s), .i (t_x), .i (t_loss), .i (t_rtt), .b (t_heard), .i (t_doubled), .b (t_began), .b (true), .i (x782)]
def tfrc_Hear (t_set_l0 : List Int) (t_set_l1 : List Int) (t_s : Int) (t_x : Int) (t_loss : Int) (t_rtt : Int) (t_heard : Bool) (t_doubled : Int) (t_began : Bool) (t_started : Bool) (t_due : Int) (now : Int) (sample : Int) (x : Int) (p : Int) (limited : Bool) : Option (List Leaf) :=
  one (maxI now 0) fun x783 =>
  one (minI x783 4611686018427387904) fun x784 =>
  one (maxI sample 1) fun x785 =>
  one (minI x785 4294967296) fun x786 =>
  one (minI x 1125899906842624) fun x787 =>
  one (minI p 4294967296) fun x788 =>
  br (!t_heard)
    (chk (decide (Int.ofNat (List.length t_set_l0) = Int.ofNat (List.length t_set_l0)) && true && true) <|
     out (tfrc_begin t_set_l0 t_set_l1 t_s t_x t_loss x786 true t_doubled t_began t_started t_due) fun r789 =>
     un_i r789 fun x790 r791 =>
     un_nil r791 <|
     chk (decide (Int.ofNat (List.length t_set_l0) = Int.ofNat (List.length t_set_l0)) && true && true) <|
     out (tfrc_limit t_set_l0 t_set_l1 t_s x790 t_loss x786 true x784 t_began t_started t_due x784 x787 x788 limited) fun r792 =>
     un_li r792 fun x793 r794 =>
     un_li r794 fun x795 r796 =>
     un_i r796 fun x797 r798 =>
     un_i r798 fun x799 r800 =>
     un_i r800 fun x801 r802 =>
     un_i r802 fun x803 r804 =>
     un_b r804 fun x805 r806 =>
     un_i r806 fun x807 r808 =>
     un_b r808 fun x809 r810 =>
     un_b r810 fun x811 r812 =>
     un_i r812 fun x813 r814 =>
     un_i r814 fun x815 r816 =>
     un_nil r816 <|
     br (decide (x788 > 0))
       (one (wrapI .u64 x803) fun x817 =>
        out (eqn_Rate x797 x817 x788) fun r818 =>
        un_i r818 fun x819 r820 =>
        un_nil r820 <|
        one (minI x819 x815) fun x821 =>
        one (maxI x821 x797) fun x822 =>
        chk (decide (Int.ofNat (List.length x793) = Int.ofNat (List.length x793)) && true && true) <|
        out (tfrc_waits x793 x795 x797 x822 x788 x803 x805 x807 x809 x811 x813 x784) fun r823 =>
        un_li r823 fun x824 r825 =>
        un_li r825 fun x826 r827 =>
        un_i r827 fun x828 r829 =>
        un_i r829 fun x830 r831 =>
        un_i r831 fun x832 r833 =>
        un_i r833 fun x834 r835 =>
        un_b r835 fun x836 r837 =>
        un_i r837 fun x838 r839 =>
        un_b r839 fun x840 r841 =>
        un_b r841 fun x842 r843 =>
        un_i r843 fun x844 r845 =>
        un_nil r845 <|
        chk (decide (Int.ofNat (List.length x824) = Int.ofNat (List.length x824)) && true && true) <|
        some [.li (x824), .li (x826), .i (x828), .i (x830), .i (x832), .i (x834), .b (x836), .i (x838), .b (x840), .b (x842), .i (x844)])
       (br (!!t_heard)
          (one (addI .i64 x807 x803) fun x846 =>
           br (decide (x784 ≥ x846))
             (out (fix_Mul 2 x799) fun r847 =>
              un_i r847 fun x848 r849 =>
              un_nil r849 <|
              one (minI x848 x815) fun x850 =>
              chk (decide (Int.ofNat (List.length x793) = Int.ofNat (List.length x793)) && true && true) <|
              out (tfrc_begin x793 x795 x797 x799 x788 x803 x805 x807 x809 x811 x813) fun r851 =>
              un_i r851 fun x852 r853 =>
              un_nil r853 <|
              one (maxI x850 x852) fun x854 =>
              one (maxI x854 x797) fun x855 =>
              chk (decide (Int.ofNat (List.length x793) = Int.ofNat (List.length x793)) && true && true) <|
              out (tfrc_waits x793 x795 x797 x855 x788 x803 x805 x784 x809 x811 x813 x784) fun r856 =>
              un_li r856 fun x857 r858 =>
              un_li r858 fun x859 r860 =>
              un_i r860 fun x861 r862 =>
              un_i r862 fun x863 r864 =>
              un_i r864 fun x865 r866 =>
              un_i r866 fun x867 r868 =>
              un_b r868 fun x869 r870 =>
              un_i r870 fun x871 r872 =>
              un_b r872 fun x873 r874 =>
              un_b r874 fun x875 r876 =>
              un_i r876 fun x877 r878 =>
              un_nil r878 <|
              chk (decide (Int.ofNat (List.length x857) = Int.ofNat (List.length x857)) && true && true) <|
              some [.li (x857), .li (x859), .i (x861), .i (x863), .i (x865), .i (x867), .b (x869), .i (x871), .b (x873), .b (x875), .i (x877)])
             (one (maxI x799 x797) fun x879 =>
              chk (decide (Int.ofNat (List.length x793) = Int.ofNat (List.length x793)) && true && true) <|
              out (tfrc_waits x793 x795 x797 x879 x788 x803 x805 x807 x809 x811 x813 x784) fun r880 =>
              un_li r880 fun x881 r882 =>
              un_li r882 fun x883 r884 =>
              un_i r884 fun x885 r886 =>
              un_i r886 fun x887 r888 =>
              un_i r888 fun x889 r890 =>
              un_i r890 fun x891 r892 =>
              un_b r892 fun x893 r894 =>
              un_i r894 fun x895 r896 =>
              un_b r896 fun x897 r898 =>
              un_b r898 fun x899 r900 =>
              un_i r900 fun x901 r902 =>
              un_nil r902 <|
              chk (decide (Int.ofNat (List.length x881) = Int.ofNat (List.length x881)) && true && true) <|
              some [.li (x881), .li (x883), .i (x885), .i (x887), .i (x889), .i (x891), .b (x893), .i (x895), .b (x897), .b (x899), .i (x901)]))
          (one (maxI x799 x797) fun x903 =>
           chk (decide (Int.ofNat (List.length x793) = Int.ofNat (List.length x793)) && true && true) <|
           out (tfrc_waits x793 x795 x797 x903 x788 x803 x805 x807 x809 x811 x813 x784) fun r904 =>
           un_li r904 fun x905 r906 =>
           un_li r906 fun x907 r908 =>
           un_i r908 fun x909 r910 =>
           un_i r910 fun x911 r912 =>
           un_i r912 fun x913 r914 =>
           un_i r914 fun x915 r916 =>
           un_b r916 fun x917 r918 =>
           un_i r918 fun x919 r920 =>
           un_b r920 fun x921 r922 =>
           un_b r922 fun x923 r924 =>
           un_i r924 fun x925 r926 =>
           un_nil r926 <|
           chk (decide (Int.ofNat (List.length x905) = Int.ofNat (List.length x905)) && true && true) <|
           some [.li (x905), .li (x907), .i (x909), .i (x911), .i (x913), .i (x915), .b (x917), .i (x919), .b (x921), .b (x923), .i (x925)])))
    (one (mulI .i64 9 t_rtt) fun x927 =>
     one (addI .i64 x927 x786) fun x928 =>
     one (quoI .i64 x928 10) fun x929 =>
     chk (decide (Int.ofNat (List.length t_set_l0) = Int.ofNat (List.length t_set_l0)) && true && true) <|
     out (tfrc_limit t_set_l0 t_set_l1 t_s t_x t_loss x929 t_heard t_doubled t_began t_started t_due x784 x787 x788 limited) fun r930 =>
     un_li r930 fun x931 r932 =>
     un_li r932 fun x933 r934 =>
     un_i r934 fun x935 r936 =>
     un_i r936 fun x937 r938 =>
     un_i r938 fun x939 r940 =>
     un_i r940 fun x941 r942 =>
     un_b r942 fun x943 r944 =>
     un_i r944 fun x945 r946 =>
     un_b r946 fun x947 r948 =>
     un_b r948 fun x949 r950 =>
     un_i r950 fun x951 r952 =>
     un_i r952 fun x953 r954 =>
     un_nil r954 <|
     br (decide (x788 > 0))
       (one (wrapI .u64 x941) fun x955 =>
        out (eqn_Rate x935 x955 x788) fun r956 =>
        un_i r956 fun x957 r958 =>
        un_nil r958 <|
        one (minI x957 x953) fun x959 =>
        one (maxI x959 x935) fun x960 =>
        chk (decide (Int.ofNat (List.length x931) = Int.ofNat (List.length x931)) && true && true) <|
        out (tfrc_waits x931 x933 x935 x960 x788 x941 x943 x945 x947 x949 x951 x784) fun r961 =>
        un_li r961 fun x962 r963 =>
        un_li r963 fun x964 r965 =>
        un_i r965 fun x966 r967 =>
        un_i r967 fun x968 r969 =>
        un_i r969 fun x970 r971 =>
        un_i r971 fun x972 r973 =>
        un_b r973 fun x974 r975 =>
        un_i r975 fun x976 r977 =>
        un_b r977 fun x978 r979 =>
        un_b r979 fun x980 r981 =>
        un_i r981 fun x982 r983 =>
        un_nil r983 <|
        chk (decide (Int.ofNat (List.length x962) = Int.ofNat (List.length x962)) && true && true) <|
        some [.li (x962), .li (x964), .i (x966), .i (x968), .i (x970), .i (x972), .b (x974), .i (x976), .b (x978), .b (x980), .i (x982)])
       (br (!!t_heard)
          (one (addI .i64 x945 x941) fun x984 =>
           br (decide (x784 ≥ x984))
             (out (fix_Mul 2 x937) fun r985 =>
              un_i r985 fun x986 r987 =>
              un_nil r987 <|
              one (minI x986 x953) fun x988 =>
              chk (decide (Int.ofNat (List.length x931) = Int.ofNat (List.length x931)) && true && true) <|
              out (tfrc_begin x931 x933 x935 x937 x788 x941 x943 x945 x947 x949 x951) fun r989 =>
              un_i r989 fun x990 r991 =>
              un_nil r991 <|
              one (maxI x988 x990) fun x992 =>
              one (maxI x992 x935) fun x993 =>
              chk (decide (Int.ofNat (List.length x931) = Int.ofNat (List.length x931)) && true && true) <|
              out (tfrc_waits x931 x933 x935 x993 x788 x941 x943 x784 x947 x949 x951 x784) fun r994 =>
              un_li r994 fun x995 r996 =>
              un_li r996 fun x997 r998 =>
              un_i r998 fun x999 r1000 =>
              un_i r1000 fun x1001 r1002 =>
              un_i r1002 fun x1003 r1004 =>
              un_i r1004 fun x1005 r1006 =>
              un_b r1006 fun x1007 r1008 =>
              un_i r1008 fun x1009 r1010 =>
              un_b r1010 fun x1011 r1012 =>
              un_b r1012 fun x1013 r1014 =>
              un_i r1014 fun x1015 r1016 =>
              un_nil r1016 <|
              chk (decide (Int.ofNat (List.length x995) = Int.ofNat (List.length x995)) && true && true) <|
              some [.li (x995), .li (x997), .i (x999), .i (x1001), .i (x1003), .i (x1005), .b (x1007), .i (x1009), .b (x1011), .b (x1013), .i (x1015)])
             (one (maxI x937 x935) fun x1017 =>
              chk (decide (Int.ofNat (List.length x931) = Int.ofNat (List.length x931)) && true && true) <|
              out (tfrc_waits x931 x933 x935 x1017 x788 x941 x943 x945 x947 x949 x951 x784) fun r1018 =>
              un_li r1018 fun x1019 r1020 =>
              un_li r1020 fun x1021 r1022 =>
              un_i r1022 fun x1023 r1024 =>
              un_i r1024 fun x1025 r1026 =>
              un_i r1026 fun x1027 r1028 =>
              un_i r1028 fun x1029 r1030 =>
              un_b r1030 fun x1031 r1032 =>
              un_i r1032 fun x1033 r1034 =>
              un_b r1034 fun x1035 r1036 =>
              un_b r1036 fun x1037 r1038 =>
              un_i r1038 fun x1039 r1040 =>
              un_nil r1040 <|
              chk (decide (Int.ofNat (List.length x1019) = Int.ofNat (List.length x1019)) && true && true) <|
              some [.li (x1019), .li (x1021), .i (x1023), .i (x1025), .i (x1027), .i (x1029), .b (x1031), .i (x1033), .b (x1035), .b (x1037), .i (x1039)]))
          (one (maxI x937 x935) fun x1041 =>
           chk (decide (Int.ofNat (List.length x931) = Int.ofNat (List.length x931)) && true && true) <|
           out (tfrc_waits x931 x933 x935 x1041 x788 x941 x943 x945 x947 x949 x951 x784) fun r1042 =>
           un_li r1042 fun x1043 r1044 =>
           un_li r1044 fun x1045 r1046 =>
           un_i r1046 fun x1047 r1048 =>
           un_i r1048 fun x1049 r1050 =>
           un_i r1050 fun x1051 r1052 =>
           un_i r1052 fun x1053 r1054 =>
           un_b r1054 fun x1055 r1056 =>
           un_i r1056 fun x1057 r1058 =>
           un_b r1058 fun x1059 r1060 =>
           un_b r1060 fun x1061 r1062 =>
           un_i r1062 fun x1063 r1064 =>
           un_nil r1064 <|
           chk (decide (Int.ofNat (List.length x1043) = Int.ofNat (List.length x1043)) && true && true) <|
           some [.li (x1043), .li (x1045), .i (x1047), .i (x1049), .i (x1051), .i (x1053), .b (x1055), .i (x1057), .b (x1059), .b (x1061), .i (x1063)])))
def tfrc_Rate (t_set_l0 : List Int) (t_set_l1 : List Int) (t_s : Int) (t_x : Int) (t_loss : Int) (t_rtt : Int) (t_heard : Bool) (t_doubled : Int) (t_began : Bool) (t_started : Bool) (t_due : Int) : Option (List Leaf) :=
  some [.i (t_x)]
def tfrc_Start (t_set_l0 : List Int) (t_set_l1 : List Int) (t_s : Int) (t_x : Int) (t_loss : Int) (t_rtt : Int) (t_heard : Bool) (t_doubled : Int) (t_began : Bool) (t_started : Bool) (t_due : Int) (now : Int) : Option (List Leaf) :=
  br (!t_began)
    (one (minI now 4611686018427387904) fun x1065 =>
     one (addI .i64 x1065 2000000) fun x1066 =>
     chk (decide (Int.ofNat (List.length t_set_l0) = Int.ofNat (List.length t_set_l0)) && true && true) <|
     some [.li (t_set_l0), .li (t_set_l1), .i (t_s), .i (t_x), .i (t_loss), .i (t_rtt), .b (t_heard), .i (t_doubled), .b (true), .b (true), .i (x1066)])
    (chk (decide (Int.ofNat (List.length t_set_l0) = Int.ofNat (List.length t_set_l0)) && true && true) <|
     some [.li (t_set_l0), .li (t_set_l1), .i (t_s), .i (t_x), .i (t_loss), .i (t_rtt), .b (t_heard), .i (t_doubled), .b (t_began), .b (t_started), .i (t_due)])
end Go.Sx.T

