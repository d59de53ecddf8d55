import Derived.Test.YthcddikjnpbnjaaGreatDoorYVecSpec
import Derived.Test.YthcddikjnpbnjaaGreatDoorYDrop
set_option linter.all false
namespace Go.Sx.T
open Go Go.Sx
def got_New  : Option (List Leaf) :=
  some [.li ([]), .li ([]), .i (0), .b (false), .i (0), .b (false)]
def got_Has (g_l_k : List Int) (g_l_v : List Int) (g_newest : Int) (g_any : Bool) (g_forgotten : Int) (g_forgot : Bool) (s : Int) : Option (List Leaf) :=
  out (seq_Of s) fun r2806 =>
  un_i r2806 fun x2807 r2808 =>
  un_nil r2808 <|
  one (mget 0 g_l_k g_l_v x2807) fun x2809 =>
  some [.b (mhas g_l_k x2807)]
def got_Put (g_l_k : List Int) (g_l_v : List Int) (g_newest : Int) (g_any : Bool) (g_forgotten : Int) (g_forgot : Bool) (s : Int) (mark : Bool) : Option (List Leaf) :=
  out (seq_Of s) fun r2810 =>
  un_i r2810 fun x2811 r2812 =>
  un_nil r2812 <|
  out (got_Has g_l_k g_l_v g_newest g_any g_forgotten g_forgot x2811) fun r2813 =>
  un_b r2813 fun x2814 r2815 =>
  un_nil r2815 <|
  br (x2814)
    (some [.li (g_l_k), .li (g_l_v), .i (g_newest), .b (g_any), .i (g_forgotten), .b (g_forgot), .b (false)])
    (br (g_any)
       (out (seq_Diff g_newest x2811) fun r2816 =>
        un_i r2816 fun x2817 r2818 =>
        un_nil r2818 <|
        br (decide (x2817 ≥ 250))
          (some [.li (g_l_k), .li (g_l_v), .i (g_newest), .b (g_any), .i (g_forgotten), .b (g_forgot), .b (false)])
          (br (g_forgot)
             (out (seq_Less g_forgotten x2811) fun r2819 =>
              un_b r2819 fun x2820 r2821 =>
              un_nil r2821 <|
              br (!x2820)
                (some [.li (g_l_k), .li (g_l_v), .i (g_newest), .b (g_any), .i (g_forgotten), .b (g_forgot), .b (false)])
                (br (mark)
                   (br (!g_any)
                      (out (got_drop (mputK (mputK g_l_k x2811) x2811) (mputV (mputK g_l_k x2811) (mputV g_l_k g_l_v x2811 0) x2811 1) x2811 true g_forgotten g_forgot x2811) fun r2822 =>
                       un_li r2822 fun x2823 r2824 =>
                       un_li r2824 fun x2825 r2826 =>
                       un_i r2826 fun x2827 r2828 =>
                       un_b r2828 fun x2829 r2830 =>
                       un_i r2830 fun x2831 r2832 =>
                       un_b r2832 fun x2833 r2834 =>
                       un_i r2834 fun x2835 r2836 =>
                       un_nil r2836 <|
                       some [.li (x2823), .li (x2825), .i (x2827), .b (x2829), .i (x2831), .b (x2833), .b (true)])
                      (out (seq_Less g_newest x2811) fun r2837 =>
                       un_b r2837 fun x2838 r2839 =>
                       un_nil r2839 <|
                       br (x2838)
                         (out (got_drop (mputK (mputK g_l_k x2811) x2811) (mputV (mputK g_l_k x2811) (mputV g_l_k g_l_v x2811 0) x2811 1) x2811 true g_forgotten g_forgot x2811) fun r2840 =>
                          un_li r2840 fun x2841 r2842 =>
                          un_li r2842 fun x2843 r2844 =>
                          un_i r2844 fun x2845 r2846 =>
                          un_b r2846 fun x2847 r2848 =>
                          un_i r2848 fun x2849 r2850 =>
                          un_b r2850 fun x2851 r2852 =>
                          un_i r2852 fun x2853 r2854 =>
                          un_nil r2854 <|
                          some [.li (x2841), .li (x2843), .i (x2845), .b (x2847), .i (x2849), .b (x2851), .b (true)])
                         (some [.li (mputK (mputK g_l_k x2811) x2811), .li (mputV (mputK g_l_k x2811) (mputV g_l_k g_l_v x2811 0) x2811 1), .i (g_newest), .b (g_any), .i (g_forgotten), .b (g_forgot), .b (true)])))
                   (br (!g_any)
                      (out (got_drop (mputK g_l_k x2811) (mputV g_l_k g_l_v x2811 0) x2811 true g_forgotten g_forgot x2811) fun r2855 =>
                       un_li r2855 fun x2856 r2857 =>
                       un_li r2857 fun x2858 r2859 =>
                       un_i r2859 fun x2860 r2861 =>
                       un_b r2861 fun x2862 r2863 =>
                       un_i r2863 fun x2864 r2865 =>
                       un_b r2865 fun x2866 r2867 =>
                       un_i r2867 fun x2868 r2869 =>
                       un_nil r2869 <|
                       some [.li (x2856), .li (x2858), .i (x2860), .b (x2862), .i (x2864), .b (x2866), .b (true)])
                      (out (seq_Less g_newest x2811) fun r2870 =>
                       un_b r2870 fun x2871 r2872 =>
                       un_nil r2872 <|
                       br (x2871)
                         (out (got_drop (mputK g_l_k x2811) (mputV g_l_k g_l_v x2811 0) x2811 true g_forgotten g_forgot x2811) fun r2873 =>
                          un_li r2873 fun x2874 r2875 =>
                          un_li r2875 fun x2876 r2877 =>
                          un_i r2877 fun x2878 r2879 =>
                          un_b r2879 fun x2880 r2881 =>
                          un_i r2881 fun x2882 r2883 =>
                          un_b r2883 fun x2884 r2885 =>
                          un_i r2885 fun x2886 r2887 =>
                          un_nil r2887 <|
                          some [.li (x2874), .li (x2876), .i (x2878), .b (x2880), .i (x2882), .b (x2884), .b (true)])
                         (some [.li (mputK g_l_k x2811), .li (mputV g_l_k g_l_v x2811 0), .i (g_newest), .b (g_any), .i (g_forgotten), .b (g_forgot), .b (true)])))))
             (br (mark)
                (br (!g_any)
                   (out (got_drop (mputK (mputK g_l_k x2811) x2811) (mputV (mputK g_l_k x2811) (mputV g_l_k g_l_v x2811 0) x2811 1) x2811 true g_forgotten g_forgot x2811) fun r2888 =>
                    un_li r2888 fun x2889 r2890 =>
                    un_li r2890 fun x2891 r2892 =>
                    un_i r2892 fun x2893 r2894 =>
                    un_b r2894 fun x2895 r2896 =>
                    un_i r2896 fun x2897 r2898 =>
                    un_b r2898 fun x2899 r2900 =>
                    un_i r2900 fun x2901 r2902 =>
                    un_nil r2902 <|
                    some [.li (x2889), .li (x2891), .i (x2893), .b (x2895), .i (x2897), .b (x2899), .b (true)])
                   (out (seq_Less g_newest x2811) fun r2903 =>
                    un_b r2903 fun x2904 r2905 =>
                    un_nil r2905 <|
                    br (x2904)
                      (out (got_drop (mputK (mputK g_l_k x2811) x2811) (mputV (mputK g_l_k x2811) (mputV g_l_k g_l_v x2811 0) x2811 1) x2811 true g_forgotten g_forgot x2811) fun r2906 =>
                       un_li r2906 fun x2907 r2908 =>
                       un_li r2908 fun x2909 r2910 =>
                       un_i r2910 fun x2911 r2912 =>
                       un_b r2912 fun x2913 r2914 =>
                       un_i r2914 fun x2915 r2916 =>
                       un_b r2916 fun x2917 r2918 =>
                       un_i r2918 fun x2919 r2920 =>
                       un_nil r2920 <|
                       some [.li (x2907), .li (x2909), .i (x2911), .b (x2913), .i (x2915), .b (x2917), .b (true)])
                      (some [.li (mputK (mputK g_l_k x2811) x2811), .li (mputV (mputK g_l_k x2811) (mputV g_l_k g_l_v x2811 0) x2811 1), .i (g_newest), .b (g_any), .i (g_forgotten), .b (g_forgot), .b (true)])))
                (br (!g_any)
                   (out (got_drop (mputK g_l_k x2811) (mputV g_l_k g_l_v x2811 0) x2811 true g_forgotten g_forgot x2811) fun r2921 =>
                    un_li r2921 fun x2922 r2923 =>
                    un_li r2923 fun x2924 r2925 =>
                    un_i r2925 fun x2926 r2927 =>
                    un_b r2927 fun x2928 r2929 =>
                    un_i r2929 fun x2930 r2931 =>
                    un_b r2931 fun x2932 r2933 =>
                    un_i r2933 fun x2934 r2935 =>
                    un_nil r2935 <|
                    some [.li (x2922), .li (x2924), .i (x2926), .b (x2928), .i (x2930), .b (x2932), .b (true)])
                   (out (seq_Less g_newest x2811) fun r2936 =>
                    un_b r2936 fun x2937 r2938 =>
                    un_nil r2938 <|
                    br (x2937)
                      (out (got_drop (mputK g_l_k x2811) (mputV g_l_k g_l_v x2811 0) x2811 true g_forgotten g_forgot x2811) fun r2939 =>
                       un_li r2939 fun x2940 r2941 =>
                       un_li r2941 fun x2942 r2943 =>
                       un_i r2943 fun x2944 r2945 =>
                       un_b r2945 fun x2946 r2947 =>
                       un_i r2947 fun x2948 r2949 =>
                       un_b r2949 fun x2950 r2951 =>
                       un_i r2951 fun x2952 r2953 =>
                       un_nil r2953 <|
                       some [.li (x2940), .li (x2942), .i (x2944), .b (x2946), .i (x2948), .b (x2950), .b (true)])
                      (some [.li (mputK g_l_k x2811), .li (mputV g_l_k g_l_v x2811 0), .i (g_newest), .b (g_any), .i (g_forgotten), .b (g_forgot), .b (true)]))))))
       (br (g_forgot)
          (out (seq_Less g_forgotten x2811) fun r2954 =>
           un_b r2954 fun x2955 r2956 =>
           un_nil r2956 <|
           br (!x2955)
             (some [.li (g_l_k), .li (g_l_v), .i (g_newest), .b (g_any), .i (g_forgotten), .b (g_forgot), .b (false)])
             (br (mark)
                (br (!g_any)
                   (out (got_drop (mputK (mputK g_l_k x2811) x2811) (mputV (mputK g_l_k x2811) (mputV g_l_k g_l_v x2811 0) x2811 1) x2811 true g_forgotten g_forgot x2811) fun r2957 =>
                    un_li r2957 fun x2958 r2959 =>
                    un_li r2959 fun x2960 r2961 =>
                    un_i r2961 fun x2962 r2963 =>
                    un_b r2963 fun x2964 r2965 =>
                    un_i r2965 fun x2966 r2967 =>
                    un_b r2967 fun x2968 r2969 =>
                    un_i r2969 fun x2970 r2971 =>
                    un_nil r2971 <|
                    some [.li (x2958), .li (x2960), .i (x2962), .b (x2964), .i (x2966), .b (x2968), .b (true)])
                   (out (seq_Less g_newest x2811) fun r2972 =>
                    un_b r2972 fun x2973 r2974 =>
                    un_nil r2974 <|
                    br (x2973)
                      (out (got_drop (mputK (mputK g_l_k x2811) x2811) (mputV (mputK g_l_k x2811) (mputV g_l_k g_l_v x2811 0) x2811 1) x2811 true g_forgotten g_forgot x2811) fun r2975 =>
                       un_li r2975 fun x2976 r2977 =>
                       un_li r2977 fun x2978 r2979 =>
                       un_i r2979 fun x2980 r2981 =>
                       un_b r2981 fun x2982 r2983 =>
                       un_i r2983 fun x2984 r2985 =>
                       un_b r2985 fun x2986 r2987 =>
                       un_i r2987 fun x2988 r2989 =>
                       un_nil r2989 <|
                       some [.li (x2976), .li (x2978), .i (x2980), .b (x2982), .i (x2984), .b (x2986), .b (true)])
                      (some [.li (mputK (mputK g_l_k x2811) x2811), .li (mputV (mputK g_l_k x2811) (mputV g_l_k g_l_v x2811 0) x2811 1), .i (g_newest), .b (g_any), .i (g_forgotten), .b (g_forgot), .b (true)])))
                (br (!g_any)
                   (out (got_drop (mputK g_l_k x2811) (mputV g_l_k g_l_v x2811 0) x2811 true g_forgotten g_forgot x2811) fun r2990 =>
                    un_li r2990 fun x2991 r2992 =>
                    un_li r2992 fun x2993 r2994 =>
                    un_i r2994 fun x2995 r2996 =>
                    un_b r2996 fun x2997 r2998 =>
                    un_i r2998 fun x2999 r3000 =>
                    un_b r3000 fun x3001 r3002 =>
                    un_i r3002 fun x3003 r3004 =>
                    un_nil r3004 <|
                    some [.li (x2991), .li (x2993), .i (x2995), .b (x2997), .i (x2999), .b (x3001), .b (true)])
                   (out (seq_Less g_newest x2811) fun r3005 =>
                    un_b r3005 fun x3006 r3007 =>
                    un_nil r3007 <|
                    br (x3006)
                      (out (got_drop (mputK g_l_k x2811) (mputV g_l_k g_l_v x2811 0) x2811 true g_forgotten g_forgot x2811) fun r3008 =>
                       un_li r3008 fun x3009 r3010 =>
                       un_li r3010 fun x3011 r3012 =>
                       un_i r3012 fun x3013 r3014 =>
                       un_b r3014 fun x3015 r3016 =>
                       un_i r3016 fun x3017 r3018 =>
                       un_b r3018 fun x3019 r3020 =>
                       un_i r3020 fun x3021 r3022 =>
                       un_nil r3022 <|
                       some [.li (x3009), .li (x3011), .i (x3013), .b (x3015), .i (x3017), .b (x3019), .b (true)])
                      (some [.li (mputK g_l_k x2811), .li (mputV g_l_k g_l_v x2811 0), .i (g_newest), .b (g_any), .i (g_forgotten), .b (g_forgot), .b (true)])))))
          (br (mark)
             (br (!g_any)
                (out (got_drop (mputK (mputK g_l_k x2811) x2811) (mputV (mputK g_l_k x2811) (mputV g_l_k g_l_v x2811 0) x2811 1) x2811 true g_forgotten g_forgot x2811) fun r3023 =>
                 un_li r3023 fun x3024 r3025 =>
                 un_li r3025 fun x3026 r3027 =>
                 un_i r3027 fun x3028 r3029 =>
                 un_b r3029 fun x3030 r3031 =>
                 un_i r3031 fun x3032 r3033 =>
                 un_b r3033 fun x3034 r3035 =>
                 un_i r3035 fun x3036 r3037 =>
                 un_nil r3037 <|
                 some [.li (x3024), .li (x3026), .i (x3028), .b (x3030), .i (x3032), .b (x3034), .b (true)])
                (out (seq_Less g_newest x2811) fun r3038 =>
                 un_b r3038 fun x3039 r3040 =>
                 un_nil r3040 <|
                 br (x3039)
                   (out (got_drop (mputK (mputK g_l_k x2811) x2811) (mputV (mputK g_l_k x2811) (mputV g_l_k g_l_v x2811 0) x2811 1) x2811 true g_forgotten g_forgot x2811) fun r3041 =>
                    un_li r3041 fun x3042 r3043 =>
                    un_li r3043 fun x3044 r3045 =>
                    un_i r3045 fun x3046 r3047 =>
                    un_b r3047 fun x3048 r3049 =>
                    un_i r3049 fun x3050 r3051 =>
                    un_b r3051 fun x3052 r3053 =>
                    un_i r3053 fun x3054 r3055 =>
                    un_nil r3055 <|
                    some [.li (x3042), .li (x3044), .i (x3046), .b (x3048), .i (x3050), .b (x3052), .b (true)])
                   (some [.li (mputK (mputK g_l_k x2811) x2811), .li (mputV (mputK g_l_k x2811) (mputV g_l_k g_l_v x2811 0) x2811 1), .i (g_newest), .b (g_any), .i (g_forgotten), .b (g_forgot), .b (true)])))
             (br (!g_any)
                (out (got_drop (mputK g_l_k x2811) (mputV g_l_k g_l_v x2811 0) x2811 true g_forgotten g_forgot x2811) fun r3056 =>
                 un_li r3056 fun x3057 r3058 =>
                 un_li r3058 fun x3059 r3060 =>
                 un_i r3060 fun x3061 r3062 =>
                 un_b r3062 fun x3063 r3064 =>
                 un_i r3064 fun x3065 r3066 =>
                 un_b r3066 fun x3067 r3068 =>
                 un_i r3068 fun x3069 r3070 =>
                 un_nil r3070 <|
                 some [.li (x3057), .li (x3059), .i (x3061), .b (x3063), .i (x3065), .b (x3067), .b (true)])
                (out (seq_Less g_newest x2811) fun r3071 =>
                 un_b r3071 fun x3072 r3073 =>
                 un_nil r3073 <|
                 br (x3072)
                   (out (got_drop (mputK g_l_k x2811) (mputV g_l_k g_l_v x2811 0) x2811 true g_forgotten g_forgot x2811) fun r3074 =>
                    un_li r3074 fun x3075 r3076 =>
                    un_li r3076 fun x3077 r3078 =>
                    un_i r3078 fun x3079 r3080 =>
                    un_b r3080 fun x3081 r3082 =>
                    un_i r3082 fun x3083 r3084 =>
                    un_b r3084 fun x3085 r3086 =>
                    un_i r3086 fun x3087 r3088 =>
                    un_nil r3088 <|
                    some [.li (x3075), .li (x3077), .i (x3079), .b (x3081), .i (x3083), .b (x3085), .b (true)])
                   (some [.li (mputK g_l_k x2811), .li (mputV g_l_k g_l_v x2811 0), .i (g_newest), .b (g_any), .i (g_forgotten), .b (g_forgot), .b (true)]))))))
def got_Cells_5_B  {α : Type} (kx : Nat → List Leaf → Option α) (kr : List Leaf → Option α) (again : List Int → List Int → List Int → Int → Bool → Int → Bool → Int → Int → Option α) (g_l_k : List Int) (g_l_v : List Int) (states : List Int) (g_newest : Int) (g_any : Bool) (g_forgotten : Int) (g_forgot : Bool) (n2 : Int) (left : Int) : Option α :=
  br (decide (left > 0))
    (one (mget 0 g_l_k g_l_v n2) fun x3098 =>
     br (!mhas g_l_k n2)
       (chk (decide (Int.ofNat (List.length states) = Int.ofNat (List.length states)) && true && decide ((Int.ofNat (List.length states) + (↑(1 : Nat) : Int)) * (↑(nat_lit 8) : Int) ≤ (140737488355328 : Int) ∧ Int.ofNat (List.length states) + (↑(1 : Nat) : Int) ≤ (4611686018427387904 : Int))) <|
        out (seq_Add n2 (-1)) fun r3099 =>
        un_i r3099 fun x3100 r3101 =>
        un_nil r3101 <|
        chk (decide (Int.ofNat (List.length states) + (↑(1 : Nat) : Int) = Int.ofNat (List.length (states ++ [(3 : Int)]))) && true) <|
        again (g_l_k) (g_l_v) (states ++ [(3 : Int)]) (g_newest) (g_any) (g_forgotten) (g_forgot) (x3100) (left))
       (one (subI .i64 left 1) fun x3102 =>
        chk (decide (Int.ofNat (List.length states) = Int.ofNat (List.length states)) && true && decide ((Int.ofNat (List.length states) + (↑(1 : Nat) : Int)) * (↑(nat_lit 8) : Int) ≤ (140737488355328 : Int) ∧ Int.ofNat (List.length states) + (↑(1 : Nat) : Int) ≤ (4611686018427387904 : Int))) <|
        out (seq_Add n2 (-1)) fun r3103 =>
        un_i r3103 fun x3104 r3105 =>
        un_nil r3105 <|
        chk (decide (Int.ofNat (List.length states) + (↑(1 : Nat) : Int) = Int.ofNat (List.length (states ++ [x3098]))) && true) <|
        again (g_l_k) (g_l_v) (states ++ [x3098]) (g_newest) (g_any) (g_forgotten) (g_forgot) (x3104) (x3102)))
    (chk (decide (Int.ofNat (List.length states) = Int.ofNat (List.length states)) && true) <|
     kx 0 [.li (g_l_k), .li (g_l_v), .li (states), .i (g_newest), .b (g_any), .i (g_forgotten), .b (g_forgot)])
def got_Cells_5_L {α : Type} (kx : Nat → List Leaf → Option α) (kr : List Leaf → Option α) : Nat → List Int → List Int → List Int → Int → Bool → Int → Bool → Int → Int → Option α
  | 0, _, _, _, _, _, _, _, _, _ => none
  | n + 1, g_l_k, g_l_v, states, g_newest, g_any, g_forgotten, g_forgot, n2, left => got_Cells_5_B  kx kr (got_Cells_5_L kx kr n) g_l_k g_l_v states g_newest g_any g_forgotten g_forgot n2 left
def got_Cells_5_F (L5 : ({β : Type} → (Nat → List Leaf → Option β) → (List Leaf → Option β) → Nat → List Int → List Int → List Int → Int → Bool → Int → Bool → Int → Int → Option β)) {α : Type} (n : Nat) (ls : List Leaf) (kx : Nat → List Leaf → Option α) (kr : List Leaf → Option α) : Option α := un_li ls fun g_l_k rr => un_li rr fun g_l_v rr => un_li rr fun states rr => un_i rr fun g_newest rr => un_b rr fun g_any rr => un_i rr fun g_forgotten rr => un_b rr fun g_forgot rr => un_i rr fun n2 rr => un_i rr fun left rr => un_nil rr (L5 kx kr n g_l_k g_l_v states g_newest g_any g_forgotten g_forgot n2 left)
def got_Cells_d (L5 : ({β : Type} → (Nat → List Leaf → Option β) → (List Leaf → Option β) → Nat → List Int → List Int → List Int → Int → Bool → Int → Bool → Int → Int → Option β)) (g_l_k : List Int) (g_l_v : List Int) (g_newest : Int) (g_any : Bool) (g_forgotten : Int) (g_forgot : Bool) : Option (List Leaf) :=
  one ((↑(List.length g_l_k) : Int)) fun x3106 =>
  chk (decide ((0 : Int) = Int.ofNat (0 : Nat)) && true) <|
  L5
    (fun i3107 r3108 =>
     br (Nat.beq 0 i3107)
       (un_li r3108 fun x3109 r3110 =>
        un_li r3110 fun x3111 r3112 =>
        un_li r3112 fun x3113 r3114 =>
        un_i r3114 fun x3115 r3116 =>
        un_b r3116 fun x3117 r3118 =>
        un_i r3118 fun x3119 r3120 =>
        un_b r3120 fun x3121 r3122 =>
        un_nil r3122 <|
        chk (decide (Int.ofNat (List.length x3113) = Int.ofNat (List.length x3113)) && true) <|
        out (vec_Of x3113) fun r3123 =>
        un_li r3123 fun x3124 r3125 =>
        un_li r3125 fun x3126 r3127 =>
        un_nil r3127 <|
        chk (decide (Int.ofNat (List.length x3124) = Int.ofNat (List.length x3124)) && true) <|
        some [.li (x3109), .li (x3111), .li (x3124), .li (x3126), .i (x3115), .b (x3117), .i (x3119), .b (x3121)])
       (none))
    (fun r3128 =>
     un_nil r3128 <|
     none)
    top (g_l_k) (g_l_v) ([]) (g_newest) (g_any) (g_forgotten) (g_forgot) (g_newest) (x3106)
def got_Cells (g_l_k : List Int) (g_l_v : List Int) (g_newest : Int) (g_any : Bool) (g_forgotten : Int) (g_forgot : Bool) : Option (List Leaf) := got_Cells_d @got_Cells_5_L g_l_k g_l_v g_newest g_any g_forgotten g_forgot
end Go.Sx.T

