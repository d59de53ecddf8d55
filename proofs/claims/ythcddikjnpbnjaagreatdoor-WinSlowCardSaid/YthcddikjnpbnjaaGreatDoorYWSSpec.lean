import Derived.Test.YthcddikjnpbnjaaGreatDoorYWinSpec
import Derived.Test.YthcddikjnpbnjaaGreatDoorYFixSpec
set_option linter.all false
namespace Go.Sx.T
open Go Go.Sx
def WinSlow_11_B  {α : Type} (kx : Nat → List Leaf → Option α) (kr : List Leaf → Option α) (again : List Int → Int → Int → Int → Int → Int → Bool → Int → Bool → Bool → Int → Bool → Int → Int → Int → Int → Int → Int → Bool → Int → Int → Int → Option α) (ns : List Int) (w_cwnd : Int) (w_slow : Int) (w_pipe : Int) (w_count : Int) (w_halved_n : Int) (w_halved_is : Bool) (w_last_n : Int) (w_last_is : Bool) (w_runs : Bool) (w_due : Int) (w_rtt_any : Bool) (w_rtt_smooth : Int) (w_rtt_spread : Int) (w_rtt_rto : Int) (j : Int) (n2 : Int) (sent : Int) (t23 : Bool) (t22 : Int) (i : Int) (k : Int) : Option α :=
  br (decide (j < k))
    (out (win_Sent w_cwnd w_slow w_pipe w_count w_halved_n w_halved_is w_last_n w_last_is w_runs w_due w_rtt_any w_rtt_smooth w_rtt_spread w_rtt_rto n2 0) fun r2326 =>
     un_i r2326 fun x2327 r2328 =>
     un_i r2328 fun x2329 r2330 =>
     un_i r2330 fun x2331 r2332 =>
     un_i r2332 fun x2333 r2334 =>
     un_i r2334 fun x2335 r2336 =>
     un_b r2336 fun x2337 r2338 =>
     un_i r2338 fun x2339 r2340 =>
     un_b r2340 fun x2341 r2342 =>
     un_b r2342 fun x2343 r2344 =>
     un_i r2344 fun x2345 r2346 =>
     un_b r2346 fun x2347 r2348 =>
     un_i r2348 fun x2349 r2350 =>
     un_i r2350 fun x2351 r2352 =>
     un_i r2352 fun x2353 r2354 =>
     un_b r2354 fun x2355 r2356 =>
     un_nil r2356 <|
     out (win_Cwnd x2327 x2329 x2331 x2333 x2335 x2337 x2339 x2341 x2343 x2345 x2347 x2349 x2351 x2353) fun r2357 =>
     un_i r2357 fun x2358 r2359 =>
     un_nil r2359 <|
     br (!x2355 == decide (sent < x2358))
       (kr [.li (ns), .b (false)])
       (out (win_Cwnd x2327 x2329 x2331 x2333 x2335 x2337 x2339 x2341 x2343 x2345 x2347 x2349 x2351 x2353) fun r2360 =>
        un_i r2360 fun x2361 r2362 =>
        un_nil r2362 <|
        br (decide (sent < x2361))
          (one (addI .i64 sent 1) fun x2363 =>
           one (addI .u64 n2 1) fun x2364 =>
           one (addI .i64 j 1) fun x2365 =>
           chk (decide (Int.ofNat (List.length ns) = Int.ofNat (List.length ns)) && true) <|
           again (ns) (x2327) (x2329) (x2331) (x2333) (x2335) (x2337) (x2339) (x2341) (x2343) (x2345) (x2347) (x2349) (x2351) (x2353) (x2365) (x2364) (x2363) (t23) (t22) (i) (k))
          (one (addI .u64 n2 1) fun x2366 =>
           one (addI .i64 j 1) fun x2367 =>
           chk (decide (Int.ofNat (List.length ns) = Int.ofNat (List.length ns)) && true) <|
           again (ns) (x2327) (x2329) (x2331) (x2333) (x2335) (x2337) (x2339) (x2341) (x2343) (x2345) (x2347) (x2349) (x2351) (x2353) (x2367) (x2366) (sent) (t23) (t22) (i) (k))))
    (chk (decide (Int.ofNat (List.length ns) = Int.ofNat (List.length ns)) && true) <|
     kx 2 [.li (ns), .i (w_cwnd), .i (w_slow), .i (w_pipe), .i (w_count), .i (w_halved_n), .b (w_halved_is), .i (w_last_n), .b (w_last_is), .b (w_runs), .i (w_due), .b (w_rtt_any), .i (w_rtt_smooth), .i (w_rtt_spread), .i (w_rtt_rto), .i (n2), .b (t23), .i (t22), .i (i), .i (sent), .i (k)])
def WinSlow_11_L {α : Type} (kx : Nat → List Leaf → Option α) (kr : List Leaf → Option α) : Nat → List Int → Int → Int → Int → Int → Int → Bool → Int → Bool → Bool → Int → Bool → Int → Int → Int → Int → Int → Int → Bool → Int → Int → Int → Option α
  | 0, _, _, _, _, _, _, _, _, _, _, _, _, _, _, _, _, _, _, _, _, _, _ => none
  | n + 1, ns, w_cwnd, w_slow, w_pipe, w_count, w_halved_n, w_halved_is, w_last_n, w_last_is, w_runs, w_due, w_rtt_any, w_rtt_smooth, w_rtt_spread, w_rtt_rto, j, n2, sent, t23, t22, i, k => WinSlow_11_B  kx kr (WinSlow_11_L kx kr n) ns w_cwnd w_slow w_pipe w_count w_halved_n w_halved_is w_last_n w_last_is w_runs w_due w_rtt_any w_rtt_smooth w_rtt_spread w_rtt_rto j n2 sent t23 t22 i k
def WinSlow_11_F (L11 : ({β : Type} → (Nat → List Leaf → Option β) → (List Leaf → Option β) → Nat → List Int → Int → Int → Int → Int → Int → Bool → Int → Bool → Bool → Int → Bool → Int → Int → Int → Int → Int → Int → Bool → Int → Int → Int → Option β)) {α : Type} (n : Nat) (ls : List Leaf) (kx : Nat → List Leaf → Option α) (kr : List Leaf → Option α) : Option α := un_li ls fun ns rr => un_i rr fun w_cwnd rr => un_i rr fun w_slow rr => un_i rr fun w_pipe rr => un_i rr fun w_count rr => un_i rr fun w_halved_n rr => un_b rr fun w_halved_is rr => un_i rr fun w_last_n rr => un_b rr fun w_last_is rr => un_b rr fun w_runs rr => un_i rr fun w_due rr => un_b rr fun w_rtt_any rr => un_i rr fun w_rtt_smooth rr => un_i rr fun w_rtt_spread rr => un_i rr fun w_rtt_rto rr => un_i rr fun j rr => un_i rr fun n2 rr => un_i rr fun sent rr => un_b rr fun t23 rr => un_i rr fun t22 rr => un_i rr fun i rr => un_i rr fun k rr => un_nil rr (L11 kx kr n ns w_cwnd w_slow w_pipe w_count w_halved_n w_halved_is w_last_n w_last_is w_runs w_due w_rtt_any w_rtt_smooth w_rtt_spread w_rtt_rto j n2 sent t23 t22 i k)
def WinSlow_7_B (L11 : ({β : Type} → (Nat → List Leaf → Option β) → (List Leaf → Option β) → Nat → List Int → Int → Int → Int → Int → Int → Bool → Int → Bool → Bool → Int → Bool → Int → Int → Int → Int → Int → Int → Bool → Int → Int → Int → Option β)) {α : Type} (kx : Nat → List Leaf → Option α) (kr : List Leaf → Option α) (again : List Int → Int → Int → Int → Int → Int → Bool → Int → Bool → Bool → Int → Bool → Int → Int → Int → Int → Int → Int → Option α) (ns : List Int) (w_cwnd : Int) (w_slow : Int) (w_pipe : Int) (w_count : Int) (w_halved_n : Int) (w_halved_is : Bool) (w_last_n : Int) (w_last_is : Bool) (w_runs : Bool) (w_due : Int) (w_rtt_any : Bool) (w_rtt_smooth : Int) (w_rtt_spread : Int) (w_rtt_rto : Int) (n2 : Int) (sent : Int) (i : Int) : Option α :=
  one (Int.ofNat (List.length ns)) fun x2715 =>
  br (decide (i < x2715))
    (br (decide (i < 30))
       (chk (decide ((0 : Int) ≤ i ∧ i < Int.ofNat (List.length ns))) <|
        chk (decide ((0 : Int) ≤ i ∧ i < Int.ofNat (List.length ns))) <|
        one (remI .i64 (List.getD ns (Int.toNat i) 0) 6) fun x2716 =>
        one (addI .i64 x2716 6) fun x2717 =>
        one (remI .i64 x2717 6) fun x2718 =>
        chk (decide (Int.ofNat (List.length ns) = Int.ofNat (List.length ns)) && true) <|
        L11
          (fun i2719 r2720 =>
           br (Nat.beq 2 i2719)
             (un_li r2720 fun x2721 r2722 =>
              un_i r2722 fun x2723 r2724 =>
              un_i r2724 fun x2725 r2726 =>
              un_i r2726 fun x2727 r2728 =>
              un_i r2728 fun x2729 r2730 =>
              un_i r2730 fun x2731 r2732 =>
              un_b r2732 fun x2733 r2734 =>
              un_i r2734 fun x2735 r2736 =>
              un_b r2736 fun x2737 r2738 =>
              un_b r2738 fun x2739 r2740 =>
              un_i r2740 fun x2741 r2742 =>
              un_b r2742 fun x2743 r2744 =>
              un_i r2744 fun x2745 r2746 =>
              un_i r2746 fun x2747 r2748 =>
              un_i r2748 fun x2749 r2750 =>
              un_i r2750 fun x2751 r2752 =>
              un_b r2752 fun x2753 r2754 =>
              un_i r2754 fun x2755 r2756 =>
              un_i r2756 fun x2757 r2758 =>
              un_i r2758 fun x2759 r2760 =>
              un_i r2760 fun x2761 r2762 =>
              un_nil r2762 <|
              out (win_Cwnd x2723 x2725 x2727 x2729 x2731 x2733 x2735 x2737 x2739 x2741 x2743 x2745 x2747 x2749) fun r2763 =>
              un_i r2763 fun x2764 r2765 =>
              un_nil r2765 <|
              one (minI x2761 x2759) fun x2766 =>
              one (wrapI .u64 x2766) fun x2767 =>
              one (subI .u64 x2751 x2767) fun x2768 =>
              br (x2766 == 0)
                (chk (decide ((0 : Int) = Int.ofNat (0 : Nat)) && (decide ((0 : Int) = Int.ofNat (0 : Nat)) && (decide ((0 : Int) = Int.ofNat (0 : Nat)) && true)) && true) <|
                 out (win_Hear [] [] [] x2723 x2725 x2727 x2729 x2731 x2733 x2735 x2737 x2739 x2741 x2743 x2745 x2747 x2749 0 1000 5) fun r2769 =>
                 un_i r2769 fun x2770 r2771 =>
                 un_i r2771 fun x2772 r2773 =>
                 un_i r2773 fun x2774 r2775 =>
                 un_i r2775 fun x2776 r2777 =>
                 un_i r2777 fun x2778 r2779 =>
                 un_b r2779 fun x2780 r2781 =>
                 un_i r2781 fun x2782 r2783 =>
                 un_b r2783 fun x2784 r2785 =>
                 un_b r2785 fun x2786 r2787 =>
                 un_i r2787 fun x2788 r2789 =>
                 un_b r2789 fun x2790 r2791 =>
                 un_i r2791 fun x2792 r2793 =>
                 un_i r2793 fun x2794 r2795 =>
                 un_i r2795 fun x2796 r2797 =>
                 un_nil r2797 <|
                 one (subI .i64 x2759 x2766) fun x2798 =>
                 out (win_Cwnd x2770 x2772 x2774 x2776 x2778 x2780 x2782 x2784 x2786 x2788 x2790 x2792 x2794 x2796) fun r2799 =>
                 un_i r2799 fun x2800 r2801 =>
                 un_nil r2801 <|
                 one (addI .i64 x2764 x2766) fun x2802 =>
                 br (x2800 != x2802)
                   (kr [.li (x2721), .b (false)])
                   (out (win_Pipe x2770 x2772 x2774 x2776 x2778 x2780 x2782 x2784 x2786 x2788 x2790 x2792 x2794 x2796) fun r2803 =>
                    un_i r2803 fun x2804 r2805 =>
                    un_nil r2805 <|
                    br (x2804 != x2798)
                      (kr [.li (x2721), .b (false)])
                      (one (addI .i64 x2757 1) fun x2806 =>
                       chk (decide (Int.ofNat (List.length x2721) = Int.ofNat (List.length x2721)) && true) <|
                       again (x2721) (x2770) (x2772) (x2774) (x2776) (x2778) (x2780) (x2782) (x2784) (x2786) (x2788) (x2790) (x2792) (x2794) (x2796) (x2751) (x2798) (x2806))))
                (br (x2766 == 1)
                   (out (ref_Seq x2768) fun r2807 =>
                    un_i r2807 fun x2808 r2809 =>
                    un_nil r2809 <|
                    one (addI .u64 x2768 1) fun x2810 =>
                    chk (decide ((↑(1 : Nat) : Int) = Int.ofNat (List.length [x2808])) && (decide ((0 : Int) = Int.ofNat (0 : Nat)) && (decide ((0 : Int) = Int.ofNat (0 : Nat)) && true)) && true) <|
                    out (win_Hear [x2808] [] [] x2723 x2725 x2727 x2729 x2731 x2733 x2735 x2737 x2739 x2741 x2743 x2745 x2747 x2749 (0 : Int) (1000 : Int) (5 : Int)) fun r2811 =>
                    un_i r2811 fun x2812 r2813 =>
                    un_i r2813 fun x2814 r2815 =>
                    un_i r2815 fun x2816 r2817 =>
                    un_i r2817 fun x2818 r2819 =>
                    un_i r2819 fun x2820 r2821 =>
                    un_b r2821 fun x2822 r2823 =>
                    un_i r2823 fun x2824 r2825 =>
                    un_b r2825 fun x2826 r2827 =>
                    un_b r2827 fun x2828 r2829 =>
                    un_i r2829 fun x2830 r2831 =>
                    un_b r2831 fun x2832 r2833 =>
                    un_i r2833 fun x2834 r2835 =>
                    un_i r2835 fun x2836 r2837 =>
                    un_i r2837 fun x2838 r2839 =>
                    un_nil r2839 <|
                    one (subI .i64 x2759 x2766) fun x2840 =>
                    out (win_Cwnd x2812 x2814 x2816 x2818 x2820 x2822 x2824 x2826 x2828 x2830 x2832 x2834 x2836 x2838) fun r2841 =>
                    un_i r2841 fun x2842 r2843 =>
                    un_nil r2843 <|
                    one (addI .i64 x2764 x2766) fun x2844 =>
                    br (x2842 != x2844)
                      (kr [.li (x2721), .b (false)])
                      (out (win_Pipe x2812 x2814 x2816 x2818 x2820 x2822 x2824 x2826 x2828 x2830 x2832 x2834 x2836 x2838) fun r2845 =>
                       un_i r2845 fun x2846 r2847 =>
                       un_nil r2847 <|
                       br (x2846 != x2840)
                         (kr [.li (x2721), .b (false)])
                         (one (addI .i64 x2757 1) fun x2848 =>
                          chk (decide (Int.ofNat (List.length x2721) = Int.ofNat (List.length x2721)) && true) <|
                          again (x2721) (x2812) (x2814) (x2816) (x2818) (x2820) (x2822) (x2824) (x2826) (x2828) (x2830) (x2832) (x2834) (x2836) (x2838) (x2751) (x2840) (x2848))))
                   (br (x2766 == 2)
                      (out (ref_Seq x2768) fun r2849 =>
                       un_i r2849 fun x2850 r2851 =>
                       un_nil r2851 <|
                       one (addI .u64 x2768 1) fun x2852 =>
                       out (ref_Seq x2852) fun r2853 =>
                       un_i r2853 fun x2854 r2855 =>
                       un_nil r2855 <|
                       one (addI .u64 x2852 1) fun x2856 =>
                       chk (decide ((↑(1 : Nat) : Int) + (↑(1 : Nat) : Int) = Int.ofNat (List.length ([x2850] ++ [x2854]))) && (decide ((0 : Int) = Int.ofNat (0 : Nat)) && (decide ((0 : Int) = Int.ofNat (0 : Nat)) && true)) && true) <|
                       out (win_Hear ([x2850] ++ [x2854]) [] [] x2723 x2725 x2727 x2729 x2731 x2733 x2735 x2737 x2739 x2741 x2743 x2745 x2747 x2749 (0 : Int) (1000 : Int) (5 : Int)) fun r2857 =>
                       un_i r2857 fun x2858 r2859 =>
                       un_i r2859 fun x2860 r2861 =>
                       un_i r2861 fun x2862 r2863 =>
                       un_i r2863 fun x2864 r2865 =>
                       un_i r2865 fun x2866 r2867 =>
                       un_b r2867 fun x2868 r2869 =>
                       un_i r2869 fun x2870 r2871 =>
                       un_b r2871 fun x2872 r2873 =>
                       un_b r2873 fun x2874 r2875 =>
                       un_i r2875 fun x2876 r2877 =>
                       un_b r2877 fun x2878 r2879 =>
                       un_i r2879 fun x2880 r2881 =>
                       un_i r2881 fun x2882 r2883 =>
                       un_i r2883 fun x2884 r2885 =>
                       un_nil r2885 <|
                       one (subI .i64 x2759 x2766) fun x2886 =>
                       out (win_Cwnd x2858 x2860 x2862 x2864 x2866 x2868 x2870 x2872 x2874 x2876 x2878 x2880 x2882 x2884) fun r2887 =>
                       un_i r2887 fun x2888 r2889 =>
                       un_nil r2889 <|
                       one (addI .i64 x2764 x2766) fun x2890 =>
                       br (x2888 != x2890)
                         (kr [.li (x2721), .b (false)])
                         (out (win_Pipe x2858 x2860 x2862 x2864 x2866 x2868 x2870 x2872 x2874 x2876 x2878 x2880 x2882 x2884) fun r2891 =>
                          un_i r2891 fun x2892 r2893 =>
                          un_nil r2893 <|
                          br (x2892 != x2886)
                            (kr [.li (x2721), .b (false)])
                            (one (addI .i64 x2757 1) fun x2894 =>
                             chk (decide (Int.ofNat (List.length x2721) = Int.ofNat (List.length x2721)) && true) <|
                             again (x2721) (x2858) (x2860) (x2862) (x2864) (x2866) (x2868) (x2870) (x2872) (x2874) (x2876) (x2878) (x2880) (x2882) (x2884) (x2751) (x2886) (x2894))))
                      (br (x2766 == 3)
                         (out (ref_Seq x2768) fun r2895 =>
                          un_i r2895 fun x2896 r2897 =>
                          un_nil r2897 <|
                          one (addI .u64 x2768 1) fun x2898 =>
                          out (ref_Seq x2898) fun r2899 =>
                          un_i r2899 fun x2900 r2901 =>
                          un_nil r2901 <|
                          one (addI .u64 x2898 1) fun x2902 =>
                          out (ref_Seq x2902) fun r2903 =>
                          un_i r2903 fun x2904 r2905 =>
                          un_nil r2905 <|
                          one (addI .u64 x2902 1) fun x2906 =>
                          chk (decide ((↑(1 : Nat) : Int) + (↑(1 : Nat) : Int) + (↑(1 : Nat) : Int) = Int.ofNat (List.length ([x2896] ++ [x2900] ++ [x2904]))) && (decide ((0 : Int) = Int.ofNat (0 : Nat)) && (decide ((0 : Int) = Int.ofNat (0 : Nat)) && true)) && true) <|
                          out (win_Hear ([x2896] ++ [x2900] ++ [x2904]) [] [] x2723 x2725 x2727 x2729 x2731 x2733 x2735 x2737 x2739 x2741 x2743 x2745 x2747 x2749 (0 : Int) (1000 : Int) (5 : Int)) fun r2907 =>
                          un_i r2907 fun x2908 r2909 =>
                          un_i r2909 fun x2910 r2911 =>
                          un_i r2911 fun x2912 r2913 =>
                          un_i r2913 fun x2914 r2915 =>
                          un_i r2915 fun x2916 r2917 =>
                          un_b r2917 fun x2918 r2919 =>
                          un_i r2919 fun x2920 r2921 =>
                          un_b r2921 fun x2922 r2923 =>
                          un_b r2923 fun x2924 r2925 =>
                          un_i r2925 fun x2926 r2927 =>
                          un_b r2927 fun x2928 r2929 =>
                          un_i r2929 fun x2930 r2931 =>
                          un_i r2931 fun x2932 r2933 =>
                          un_i r2933 fun x2934 r2935 =>
                          un_nil r2935 <|
                          one (subI .i64 x2759 x2766) fun x2936 =>
                          out (win_Cwnd x2908 x2910 x2912 x2914 x2916 x2918 x2920 x2922 x2924 x2926 x2928 x2930 x2932 x2934) fun r2937 =>
                          un_i r2937 fun x2938 r2939 =>
                          un_nil r2939 <|
                          one (addI .i64 x2764 x2766) fun x2940 =>
                          br (x2938 != x2940)
                            (kr [.li (x2721), .b (false)])
                            (out (win_Pipe x2908 x2910 x2912 x2914 x2916 x2918 x2920 x2922 x2924 x2926 x2928 x2930 x2932 x2934) fun r2941 =>
                             un_i r2941 fun x2942 r2943 =>
                             un_nil r2943 <|
                             br (x2942 != x2936)
                               (kr [.li (x2721), .b (false)])
                               (one (addI .i64 x2757 1) fun x2944 =>
                                chk (decide (Int.ofNat (List.length x2721) = Int.ofNat (List.length x2721)) && true) <|
                                again (x2721) (x2908) (x2910) (x2912) (x2914) (x2916) (x2918) (x2920) (x2922) (x2924) (x2926) (x2928) (x2930) (x2932) (x2934) (x2751) (x2936) (x2944))))
                         (br (x2766 == 4)
                            (out (ref_Seq x2768) fun r2945 =>
                             un_i r2945 fun x2946 r2947 =>
                             un_nil r2947 <|
                             one (addI .u64 x2768 1) fun x2948 =>
                             out (ref_Seq x2948) fun r2949 =>
                             un_i r2949 fun x2950 r2951 =>
                             un_nil r2951 <|
                             one (addI .u64 x2948 1) fun x2952 =>
                             out (ref_Seq x2952) fun r2953 =>
                             un_i r2953 fun x2954 r2955 =>
                             un_nil r2955 <|
                             one (addI .u64 x2952 1) fun x2956 =>
                             out (ref_Seq x2956) fun r2957 =>
                             un_i r2957 fun x2958 r2959 =>
                             un_nil r2959 <|
                             one (addI .u64 x2956 1) fun x2960 =>
                             chk (decide ((↑(1 : Nat) : Int) + (↑(1 : Nat) : Int) + (↑(1 : Nat) : Int) + (↑(1 : Nat) : Int) = Int.ofNat (List.length ([x2946] ++ [x2950] ++ [x2954] ++ [x2958]))) && (decide ((0 : Int) = Int.ofNat (0 : Nat)) && (decide ((0 : Int) = Int.ofNat (0 : Nat)) && true)) && true) <|
                             out (win_Hear ([x2946] ++ [x2950] ++ [x2954] ++ [x2958]) [] [] x2723 x2725 x2727 x2729 x2731 x2733 x2735 x2737 x2739 x2741 x2743 x2745 x2747 x2749 (0 : Int) (1000 : Int) (5 : Int)) fun r2961 =>
                             un_i r2961 fun x2962 r2963 =>
                             un_i r2963 fun x2964 r2965 =>
                             un_i r2965 fun x2966 r2967 =>
                             un_i r2967 fun x2968 r2969 =>
                             un_i r2969 fun x2970 r2971 =>
                             un_b r2971 fun x2972 r2973 =>
                             un_i r2973 fun x2974 r2975 =>
                             un_b r2975 fun x2976 r2977 =>
                             un_b r2977 fun x2978 r2979 =>
                             un_i r2979 fun x2980 r2981 =>
                             un_b r2981 fun x2982 r2983 =>
                             un_i r2983 fun x2984 r2985 =>
                             un_i r2985 fun x2986 r2987 =>
                             un_i r2987 fun x2988 r2989 =>
                             un_nil r2989 <|
                             one (subI .i64 x2759 x2766) fun x2990 =>
                             out (win_Cwnd x2962 x2964 x2966 x2968 x2970 x2972 x2974 x2976 x2978 x2980 x2982 x2984 x2986 x2988) fun r2991 =>
                             un_i r2991 fun x2992 r2993 =>
                             un_nil r2993 <|
                             one (addI .i64 x2764 x2766) fun x2994 =>
                             br (x2992 != x2994)
                               (kr [.li (x2721), .b (false)])
                               (out (win_Pipe x2962 x2964 x2966 x2968 x2970 x2972 x2974 x2976 x2978 x2980 x2982 x2984 x2986 x2988) fun r2995 =>
                                un_i r2995 fun x2996 r2997 =>
                                un_nil r2997 <|
                                br (x2996 != x2990)
                                  (kr [.li (x2721), .b (false)])
                                  (one (addI .i64 x2757 1) fun x2998 =>
                                   chk (decide (Int.ofNat (List.length x2721) = Int.ofNat (List.length x2721)) && true) <|
                                   again (x2721) (x2962) (x2964) (x2966) (x2968) (x2970) (x2972) (x2974) (x2976) (x2978) (x2980) (x2982) (x2984) (x2986) (x2988) (x2751) (x2990) (x2998))))
                            (br (x2766 == 5)
                               (out (ref_Seq x2768) fun r2999 =>
                                un_i r2999 fun x3000 r3001 =>
                                un_nil r3001 <|
                                one (addI .u64 x2768 1) fun x3002 =>
                                out (ref_Seq x3002) fun r3003 =>
                                un_i r3003 fun x3004 r3005 =>
                                un_nil r3005 <|
                                one (addI .u64 x3002 1) fun x3006 =>
                                out (ref_Seq x3006) fun r3007 =>
                                un_i r3007 fun x3008 r3009 =>
                                un_nil r3009 <|
                                one (addI .u64 x3006 1) fun x3010 =>
                                out (ref_Seq x3010) fun r3011 =>
                                un_i r3011 fun x3012 r3013 =>
                                un_nil r3013 <|
                                one (addI .u64 x3010 1) fun x3014 =>
                                out (ref_Seq x3014) fun r3015 =>
                                un_i r3015 fun x3016 r3017 =>
                                un_nil r3017 <|
                                one (addI .u64 x3014 1) fun x3018 =>
                                chk (decide ((↑(1 : Nat) : Int) + (↑(1 : Nat) : Int) + (↑(1 : Nat) : Int) + (↑(1 : Nat) : Int) + (↑(1 : Nat) : Int) = Int.ofNat (List.length ([x3000] ++ [x3004] ++ [x3008] ++ [x3012] ++ [x3016]))) && (decide ((0 : Int) = Int.ofNat (0 : Nat)) && (decide ((0 : Int) = Int.ofNat (0 : Nat)) && true)) && true) <|
                                out (win_Hear ([x3000] ++ [x3004] ++ [x3008] ++ [x3012] ++ [x3016]) [] [] x2723 x2725 x2727 x2729 x2731 x2733 x2735 x2737 x2739 x2741 x2743 x2745 x2747 x2749 (0 : Int) (1000 : Int) (5 : Int)) fun r3019 =>
                                un_i r3019 fun x3020 r3021 =>
                                un_i r3021 fun x3022 r3023 =>
                                un_i r3023 fun x3024 r3025 =>
                                un_i r3025 fun x3026 r3027 =>
                                un_i r3027 fun x3028 r3029 =>
                                un_b r3029 fun x3030 r3031 =>
                                un_i r3031 fun x3032 r3033 =>
                                un_b r3033 fun x3034 r3035 =>
                                un_b r3035 fun x3036 r3037 =>
                                un_i r3037 fun x3038 r3039 =>
                                un_b r3039 fun x3040 r3041 =>
                                un_i r3041 fun x3042 r3043 =>
                                un_i r3043 fun x3044 r3045 =>
                                un_i r3045 fun x3046 r3047 =>
                                un_nil r3047 <|
                                one (subI .i64 x2759 x2766) fun x3048 =>
                                out (win_Cwnd x3020 x3022 x3024 x3026 x3028 x3030 x3032 x3034 x3036 x3038 x3040 x3042 x3044 x3046) fun r3049 =>
                                un_i r3049 fun x3050 r3051 =>
                                un_nil r3051 <|
                                one (addI .i64 x2764 x2766) fun x3052 =>
                                br (x3050 != x3052)
                                  (kr [.li (x2721), .b (false)])
                                  (out (win_Pipe x3020 x3022 x3024 x3026 x3028 x3030 x3032 x3034 x3036 x3038 x3040 x3042 x3044 x3046) fun r3053 =>
                                   un_i r3053 fun x3054 r3055 =>
                                   un_nil r3055 <|
                                   br (x3054 != x3048)
                                     (kr [.li (x2721), .b (false)])
                                     (one (addI .i64 x2757 1) fun x3056 =>
                                      chk (decide (Int.ofNat (List.length x2721) = Int.ofNat (List.length x2721)) && true) <|
                                      again (x2721) (x3020) (x3022) (x3024) (x3026) (x3028) (x3030) (x3032) (x3034) (x3036) (x3038) (x3040) (x3042) (x3044) (x3046) (x2751) (x3048) (x3056))))
                               (none)))))))
             (none))
          (fun r3057 =>
           un_li r3057 fun x3058 r3059 =>
           un_b r3059 fun x3060 r3061 =>
           un_nil r3061 <|
           kr [.li (x3058), .b (x3060)])
          top (ns) (w_cwnd) (w_slow) (w_pipe) (w_count) (w_halved_n) (w_halved_is) (w_last_n) (w_last_is) (w_runs) (w_due) (w_rtt_any) (w_rtt_smooth) (w_rtt_spread) (w_rtt_rto) (0) (n2) (sent) (decide (i < 30)) (i) (i) (x2718))
       (kx 0 [.li (ns)]))
    (kx 0 [.li (ns)])
def WinSlow_7_L {α : Type} (kx : Nat → List Leaf → Option α) (kr : List Leaf → Option α) : Nat → List Int → Int → Int → Int → Int → Int → Bool → Int → Bool → Bool → Int → Bool → Int → Int → Int → Int → Int → Int → Option α
  | 0, _, _, _, _, _, _, _, _, _, _, _, _, _, _, _, _, _, _ => none
  | n + 1, ns, w_cwnd, w_slow, w_pipe, w_count, w_halved_n, w_halved_is, w_last_n, w_last_is, w_runs, w_due, w_rtt_any, w_rtt_smooth, w_rtt_spread, w_rtt_rto, n2, sent, i => WinSlow_7_B @WinSlow_11_L kx kr (WinSlow_7_L kx kr n) ns w_cwnd w_slow w_pipe w_count w_halved_n w_halved_is w_last_n w_last_is w_runs w_due w_rtt_any w_rtt_smooth w_rtt_spread w_rtt_rto n2 sent i
def WinSlow_7_F (L7 : ({β : Type} → (Nat → List Leaf → Option β) → (List Leaf → Option β) → Nat → List Int → Int → Int → Int → Int → Int → Bool → Int → Bool → Bool → Int → Bool → Int → Int → Int → Int → Int → Int → Option β)) {α : Type} (n : Nat) (ls : List Leaf) (kx : Nat → List Leaf → Option α) (kr : List Leaf → Option α) : Option α := un_li ls fun ns rr => un_i rr fun w_cwnd rr => un_i rr fun w_slow rr => un_i rr fun w_pipe rr => un_i rr fun w_count rr => un_i rr fun w_halved_n rr => un_b rr fun w_halved_is rr => un_i rr fun w_last_n rr => un_b rr fun w_last_is rr => un_b rr fun w_runs rr => un_i rr fun w_due rr => un_b rr fun w_rtt_any rr => un_i rr fun w_rtt_smooth rr => un_i rr fun w_rtt_spread rr => un_i rr fun w_rtt_rto rr => un_i rr fun n2 rr => un_i rr fun sent rr => un_i rr fun i rr => un_nil rr (L7 kx kr n ns w_cwnd w_slow w_pipe w_count w_halved_n w_halved_is w_last_n w_last_is w_runs w_due w_rtt_any w_rtt_smooth w_rtt_spread w_rtt_rto n2 sent i)
def WinSlow_d (L7 : ({β : Type} → (Nat → List Leaf → Option β) → (List Leaf → Option β) → Nat → List Int → Int → Int → Int → Int → Int → Bool → Int → Bool → Bool → Int → Bool → Int → Int → Int → Int → Int → Int → Option β)) (ns : List Int) : Option (List Leaf) :=
  out (win_New) fun r3062 =>
  un_i r3062 fun x3063 r3064 =>
  un_i r3064 fun x3065 r3066 =>
  un_i r3066 fun x3067 r3068 =>
  un_i r3068 fun x3069 r3070 =>
  un_i r3070 fun x3071 r3072 =>
  un_b r3072 fun x3073 r3074 =>
  un_i r3074 fun x3075 r3076 =>
  un_b r3076 fun x3077 r3078 =>
  un_b r3078 fun x3079 r3080 =>
  un_i r3080 fun x3081 r3082 =>
  un_b r3082 fun x3083 r3084 =>
  un_i r3084 fun x3085 r3086 =>
  un_i r3086 fun x3087 r3088 =>
  un_i r3088 fun x3089 r3090 =>
  un_nil r3090 <|
  chk (decide (Int.ofNat (List.length ns) = Int.ofNat (List.length ns)) && true) <|
  L7
    (fun i3091 r3092 =>
     br (Nat.beq 0 i3091)
       (un_li r3092 fun x3093 r3094 =>
        un_nil r3094 <|
        some [.b (true)])
       (none))
    (fun r3095 =>
     un_li r3095 fun x3096 r3097 =>
     un_b r3097 fun x3098 r3099 =>
     un_nil r3099 <|
     some [.b (x3098)])
    top (ns) (x3063) (x3065) (x3067) (x3069) (x3071) (x3073) (x3075) (x3077) (x3079) (x3081) (x3083) (x3085) (x3087) (x3089) (1) (0) (0)
def WinSlow (ns : List Int) : Option (List Leaf) := WinSlow_d @WinSlow_7_L ns
end Go.Sx.T

