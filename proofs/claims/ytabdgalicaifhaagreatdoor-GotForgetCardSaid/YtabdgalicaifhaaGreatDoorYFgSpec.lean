import Derived.Test.YtabdgalicaifhaaGreatDoorYGotSpec
import Derived.Test.YtabdgalicaifhaaGreatDoorYDropF
set_option linter.all false
namespace Go.Sx.T
open Go Go.Sx
def got_Forget (g_l_k : List Int) (g_l_v : List Int) (g_newest : Int) (g_any : Bool) (g_forgotten : Int) (g_forgot : Bool) (s : Int) : Option (List Leaf) :=
  out (seq_Of s) fun r2829 =>
  un_i r2829 fun x2830 r2831 =>
  un_nil r2831 <|
  br (!g_forgot)
    (out (got_dropF g_l_k g_l_v g_newest g_any x2830 true x2830) fun r2832 =>
     un_li r2832 fun x2833 r2834 =>
     un_li r2834 fun x2835 r2836 =>
     un_i r2836 fun x2837 r2838 =>
     un_b r2838 fun x2839 r2840 =>
     un_i r2840 fun x2841 r2842 =>
     un_b r2842 fun x2843 r2844 =>
     un_i r2844 fun x2845 r2846 =>
     un_nil r2846 <|
     some [.li (x2833), .li (x2835), .i (x2837), .b (x2839), .i (x2841), .b (x2843)])
    (out (seq_Less g_forgotten x2830) fun r2847 =>
     un_b r2847 fun x2848 r2849 =>
     un_nil r2849 <|
     br (x2848)
       (out (got_dropF g_l_k g_l_v g_newest g_any x2830 true x2830) fun r2850 =>
        un_li r2850 fun x2851 r2852 =>
        un_li r2852 fun x2853 r2854 =>
        un_i r2854 fun x2855 r2856 =>
        un_b r2856 fun x2857 r2858 =>
        un_i r2858 fun x2859 r2860 =>
        un_b r2860 fun x2861 r2862 =>
        un_i r2862 fun x2863 r2864 =>
        un_nil r2864 <|
        some [.li (x2851), .li (x2853), .i (x2855), .b (x2857), .i (x2859), .b (x2861)])
       (out (got_dropF g_l_k g_l_v g_newest g_any g_forgotten g_forgot x2830) fun r2865 =>
        un_li r2865 fun x2866 r2867 =>
        un_li r2867 fun x2868 r2869 =>
        un_i r2869 fun x2870 r2871 =>
        un_b r2871 fun x2872 r2873 =>
        un_i r2873 fun x2874 r2875 =>
        un_b r2875 fun x2876 r2877 =>
        un_i r2877 fun x2878 r2879 =>
        un_nil r2879 <|
        some [.li (x2866), .li (x2868), .i (x2870), .b (x2872), .i (x2874), .b (x2876)]))
end Go.Sx.T

