import Derived.Test.YtllgbgponmkijaaGreatDoorYPaceSpec
import Derived.Test.YtllgbgponmkijaaGreatDoorYRPSpec
set_option linter.all false
namespace Go.Sx.T
open Go Go.Sx
def PaceAll_9_B  {α : Type} (kx : Nat → List Leaf → Option α) (kr : List Leaf → Option α) (again : List Int → List Int → List Int → List Int → Int → Int → Int → Int → Int → Int → Int → Int → Int → Int → Int → Option α) (ops0 : List Int) (ops1 : List Int) (ops2 : List Int) (ops3 : List Int) (w_S : Int) (w_X : Int) (w_Tick : Int) (w_Has : Int) (w_Now : Int) (p_s : Int) (p_tick : Int) (p_has : Int) (p_rate : Int) (p_now : Int) (i : Int) : Option α :=
  one (Int.ofNat (List.length ops0)) fun x2770 =>
  br (decide (i < x2770))
    (br (decide (i < 50))
       (chk (decide ((0 : Int) ≤ i ∧ i < Int.ofNat (List.length ops0))) <|
        chk (decide ((0 : Int) ≤ i ∧ i < Int.ofNat (List.length ops0))) <|
        one (minI (List.getD ops3 (Int.toNat i) 0) 2305843009213693952) fun x2771 =>
        one (maxI 0 x2771) fun x2772 =>
        br (List.getD ops0 (Int.toNat i) 0 == 0)
          (out (pace_Rate p_s p_tick p_has p_rate p_now x2772 (List.getD ops2 (Int.toNat i) 0)) fun r2773 =>
           un_i r2773 fun x2774 r2775 =>
           un_i r2775 fun x2776 r2777 =>
           un_i r2777 fun x2778 r2779 =>
           un_i r2779 fun x2780 r2781 =>
           un_i r2781 fun x2782 r2783 =>
           un_nil r2783 <|
           out (rp_Rate w_S w_X w_Tick w_Has w_Now x2772 (List.getD ops2 (Int.toNat i) 0)) fun r2784 =>
           un_i r2784 fun x2785 r2786 =>
           un_i r2786 fun x2787 r2788 =>
           un_i r2788 fun x2789 r2790 =>
           un_i r2790 fun x2791 r2792 =>
           un_i r2792 fun x2793 r2794 =>
           un_nil r2794 <|
           out (pace_Cap x2774 x2776 x2778 x2780 x2782) fun r2795 =>
           un_i r2795 fun x2796 r2797 =>
           un_nil r2797 <|
           out (rp_Cap x2785 x2787 x2789 x2791 x2793) fun r2798 =>
           un_i r2798 fun x2799 r2800 =>
           un_nil r2800 <|
           br (x2796 != x2799)
             (kr [.li (ops0), .li (ops1), .li (ops2), .li (ops3), .b (false)])
             (one (addI .i64 i 1) fun x2801 =>
              chk (decide (Int.ofNat (List.length ops0) = Int.ofNat (List.length ops0)) && true) <|
              again (ops0) (ops1) (ops2) (ops3) (x2785) (x2787) (x2789) (x2791) (x2793) (x2774) (x2776) (x2778) (x2780) (x2782) (x2801)))
          (br (List.getD ops0 (Int.toNat i) 0 == 1)
             (out (pace_May p_s p_tick p_has p_rate p_now x2772 (List.getD ops1 (Int.toNat i) 0)) fun r2802 =>
              un_i r2802 fun x2803 r2804 =>
              un_i r2804 fun x2805 r2806 =>
              un_i r2806 fun x2807 r2808 =>
              un_i r2808 fun x2809 r2810 =>
              un_i r2810 fun x2811 r2812 =>
              un_b r2812 fun x2813 r2814 =>
              un_nil r2814 <|
              out (rp_Take w_S w_X w_Tick w_Has w_Now x2772 (List.getD ops1 (Int.toNat i) 0) false) fun r2815 =>
              un_i r2815 fun x2816 r2817 =>
              un_i r2817 fun x2818 r2819 =>
              un_i r2819 fun x2820 r2821 =>
              un_i r2821 fun x2822 r2823 =>
              un_i r2823 fun x2824 r2825 =>
              un_b r2825 fun x2826 r2827 =>
              un_nil r2827 <|
              br (!x2813 == x2826)
                (kr [.li (ops0), .li (ops1), .li (ops2), .li (ops3), .b (false)])
                (out (pace_Cap x2803 x2805 x2807 x2809 x2811) fun r2828 =>
                 un_i r2828 fun x2829 r2830 =>
                 un_nil r2830 <|
                 out (rp_Cap x2816 x2818 x2820 x2822 x2824) fun r2831 =>
                 un_i r2831 fun x2832 r2833 =>
                 un_nil r2833 <|
                 br (x2829 != x2832)
                   (kr [.li (ops0), .li (ops1), .li (ops2), .li (ops3), .b (false)])
                   (one (addI .i64 i 1) fun x2834 =>
                    chk (decide (Int.ofNat (List.length ops0) = Int.ofNat (List.length ops0)) && true) <|
                    again (ops0) (ops1) (ops2) (ops3) (x2816) (x2818) (x2820) (x2822) (x2824) (x2803) (x2805) (x2807) (x2809) (x2811) (x2834))))
             (br (List.getD ops0 (Int.toNat i) 0 == 2)
                (out (pace_Take p_s p_tick p_has p_rate p_now x2772 (List.getD ops1 (Int.toNat i) 0)) fun r2835 =>
                 un_i r2835 fun x2836 r2837 =>
                 un_i r2837 fun x2838 r2839 =>
                 un_i r2839 fun x2840 r2841 =>
                 un_i r2841 fun x2842 r2843 =>
                 un_i r2843 fun x2844 r2845 =>
                 un_b r2845 fun x2846 r2847 =>
                 un_nil r2847 <|
                 out (rp_Take w_S w_X w_Tick w_Has w_Now x2772 (List.getD ops1 (Int.toNat i) 0) true) fun r2848 =>
                 un_i r2848 fun x2849 r2850 =>
                 un_i r2850 fun x2851 r2852 =>
                 un_i r2852 fun x2853 r2854 =>
                 un_i r2854 fun x2855 r2856 =>
                 un_i r2856 fun x2857 r2858 =>
                 un_b r2858 fun x2859 r2860 =>
                 un_nil r2860 <|
                 br (!x2846 == x2859)
                   (kr [.li (ops0), .li (ops1), .li (ops2), .li (ops3), .b (false)])
                   (out (pace_Cap x2836 x2838 x2840 x2842 x2844) fun r2861 =>
                    un_i r2861 fun x2862 r2863 =>
                    un_nil r2863 <|
                    out (rp_Cap x2849 x2851 x2853 x2855 x2857) fun r2864 =>
                    un_i r2864 fun x2865 r2866 =>
                    un_nil r2866 <|
                    br (x2862 != x2865)
                      (kr [.li (ops0), .li (ops1), .li (ops2), .li (ops3), .b (false)])
                      (one (addI .i64 i 1) fun x2867 =>
                       chk (decide (Int.ofNat (List.length ops0) = Int.ofNat (List.length ops0)) && true) <|
                       again (ops0) (ops1) (ops2) (ops3) (x2849) (x2851) (x2853) (x2855) (x2857) (x2836) (x2838) (x2840) (x2842) (x2844) (x2867))))
                (out (pace_When p_s p_tick p_has p_rate p_now (List.getD ops1 (Int.toNat i) 0)) fun r2868 =>
                 un_i r2868 fun x2869 r2870 =>
                 un_nil r2870 <|
                 out (rp_When w_S w_X w_Tick w_Has w_Now (List.getD ops1 (Int.toNat i) 0)) fun r2871 =>
                 un_i r2871 fun x2872 r2873 =>
                 un_nil r2873 <|
                 br (x2869 != x2872)
                   (kr [.li (ops0), .li (ops1), .li (ops2), .li (ops3), .b (false)])
                   (out (pace_Cap p_s p_tick p_has p_rate p_now) fun r2874 =>
                    un_i r2874 fun x2875 r2876 =>
                    un_nil r2876 <|
                    out (rp_Cap w_S w_X w_Tick w_Has w_Now) fun r2877 =>
                    un_i r2877 fun x2878 r2879 =>
                    un_nil r2879 <|
                    br (x2875 != x2878)
                      (kr [.li (ops0), .li (ops1), .li (ops2), .li (ops3), .b (false)])
                      (one (addI .i64 i 1) fun x2880 =>
                       chk (decide (Int.ofNat (List.length ops0) = Int.ofNat (List.length ops0)) && true) <|
                       again (ops0) (ops1) (ops2) (ops3) (w_S) (w_X) (w_Tick) (w_Has) (w_Now) (p_s) (p_tick) (p_has) (p_rate) (p_now) (x2880)))))))
       (kx 0 [.li (ops0), .li (ops1), .li (ops2), .li (ops3)]))
    (kx 0 [.li (ops0), .li (ops1), .li (ops2), .li (ops3)])
def PaceAll_9_L {α : Type} (kx : Nat → List Leaf → Option α) (kr : List Leaf → Option α) : Nat → List Int → List Int → List Int → List Int → Int → Int → Int → Int → Int → Int → Int → Int → Int → Int → Int → Option α
  | 0, _, _, _, _, _, _, _, _, _, _, _, _, _, _, _ => none
  | n + 1, ops0, ops1, ops2, ops3, w_S, w_X, w_Tick, w_Has, w_Now, p_s, p_tick, p_has, p_rate, p_now, i => PaceAll_9_B  kx kr (PaceAll_9_L kx kr n) ops0 ops1 ops2 ops3 w_S w_X w_Tick w_Has w_Now p_s p_tick p_has p_rate p_now i
def PaceAll_9_F (L9 : ({β : Type} → (Nat → List Leaf → Option β) → (List Leaf → Option β) → Nat → List Int → List Int → List Int → List Int → Int → Int → Int → Int → Int → Int → Int → Int → Int → Int → Int → Option β)) {α : Type} (n : Nat) (ls : List Leaf) (kx : Nat → List Leaf → Option α) (kr : List Leaf → Option α) : Option α := un_li ls fun ops0 rr => un_li rr fun ops1 rr => un_li rr fun ops2 rr => un_li rr fun ops3 rr => un_i rr fun w_S rr => un_i rr fun w_X rr => un_i rr fun w_Tick rr => un_i rr fun w_Has rr => un_i rr fun w_Now rr => un_i rr fun p_s rr => un_i rr fun p_tick rr => un_i rr fun p_has rr => un_i rr fun p_rate rr => un_i rr fun p_now rr => un_i rr fun i rr => un_nil rr (L9 kx kr n ops0 ops1 ops2 ops3 w_S w_X w_Tick w_Has w_Now p_s p_tick p_has p_rate p_now i)
def PaceAll_d (L9 : ({β : Type} → (Nat → List Leaf → Option β) → (List Leaf → Option β) → Nat → List Int → List Int → List Int → List Int → Int → Int → Int → Int → Int → Int → Int → Int → Int → Int → Int → Option β)) (ops0 : List Int) (ops1 : List Int) (ops2 : List Int) (ops3 : List Int) (s : Int) (tick : Int) : Option (List Leaf) :=
  br (decide (s < 1))
    (br (decide (s < 1))
       (some [.b (true)])
       (br (decide (s > 1400))
          (some [.b (true)])
          (br (decide (tick < 0))
             (some [.b (true)])
             (br (decide (tick > 1000000))
                (some [.b (true)])
                (one (wrapI .u64 s) fun x2881 =>
                 one (wrapI .u64 tick) fun x2882 =>
                 none)))))
    (br (decide (s > 1400))
       (br (decide (s < 1))
          (some [.b (true)])
          (br (decide (s > 1400))
             (some [.b (true)])
             (br (decide (tick < 0))
                (some [.b (true)])
                (br (decide (tick > 1000000))
                   (some [.b (true)])
                   (one (wrapI .u64 s) fun x2883 =>
                    one (wrapI .u64 tick) fun x2884 =>
                    none)))))
       (br (decide (tick < 0))
          (br (decide (s < 1))
             (some [.b (true)])
             (br (decide (s > 1400))
                (some [.b (true)])
                (br (decide (tick < 0))
                   (some [.b (true)])
                   (br (decide (tick > 1000000))
                      (some [.b (true)])
                      (one (wrapI .u64 s) fun x2885 =>
                       one (wrapI .u64 tick) fun x2886 =>
                       none)))))
          (br (decide (tick > 1000000))
             (br (decide (s < 1))
                (some [.b (true)])
                (br (decide (s > 1400))
                   (some [.b (true)])
                   (br (decide (tick < 0))
                      (some [.b (true)])
                      (br (decide (tick > 1000000))
                         (some [.b (true)])
                         (one (wrapI .u64 s) fun x2887 =>
                          one (wrapI .u64 tick) fun x2888 =>
                          none)))))
             (one (wrapI .u64 s) fun x2889 =>
              one (wrapI .u64 tick) fun x2890 =>
              br (decide (s < 1))
                (some [.b (false)])
                (br (decide (s > 1400))
                   (some [.b (false)])
                   (br (decide (tick < 0))
                      (some [.b (false)])
                      (br (decide (tick > 1000000))
                         (some [.b (false)])
                         (one (wrapI .u64 s) fun x2891 =>
                          one (wrapI .u64 tick) fun x2892 =>
                          chk (decide (Int.ofNat (List.length ops0) = Int.ofNat (List.length ops0)) && true) <|
                          L9
                            (fun i2893 r2894 =>
                             br (Nat.beq 0 i2893)
                               (un_li r2894 fun x2895 r2896 =>
                                un_li r2896 fun x2897 r2898 =>
                                un_li r2898 fun x2899 r2900 =>
                                un_li r2900 fun x2901 r2902 =>
                                un_nil r2902 <|
                                some [.b (true)])
                               (none))
                            (fun r2903 =>
                             un_li r2903 fun x2904 r2905 =>
                             un_li r2905 fun x2906 r2907 =>
                             un_li r2907 fun x2908 r2909 =>
                             un_li r2909 fun x2910 r2911 =>
                             un_b r2911 fun x2912 r2913 =>
                             un_nil r2913 <|
                             some [.b (x2912)])
                            top (ops0) (ops1) (ops2) (ops3) (x2891) (0) (x2892) (0) (0) (x2889) (x2890) (0) (0) (0) (0)))))))))
def PaceAll (ops0 : List Int) (ops1 : List Int) (ops2 : List Int) (ops3 : List Int) (s : Int) (tick : Int) : Option (List Leaf) := PaceAll_d @PaceAll_9_L ops0 ops1 ops2 ops3 s tick
end Go.Sx.T

