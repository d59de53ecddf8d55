import Derived.Test.YtllgbgponmkijaaGreatDoorYPaceSpec
import Derived.Test.YtllgbgponmkijaaGreatDoorYRPSpec
set_option linter.all false
namespace Go.Sx.T
open Go Go.Sx
def PaceAll_9_B  {α : Type} (kx : Nat → List Leaf → Option α) (kr : List Leaf → Option α) (again : List Int → List Int → List Int → List Int → Int → Int → Int → Int → Int → Int → Int → Int → Int → Int → Int → Option α) (ops0 : List Int) (ops1 : List Int) (ops2 : List Int) (ops3 : List Int) (w_S : Int) (w_X : Int) (w_Tick : Int) (w_Has : Int) (w_Now : Int) (p_s : Int) (p_tick : Int) (p_has : Int) (p_rate : Int) (p_now : Int) (i : Int) : Option α :=
  one (Int.ofNat (List.length ops0)) fun x2758 =>
  br (decide (i < x2758))
    (br (decide (i < 50))
       (chk (decide ((0 : Int) ≤ i ∧ i < Int.ofNat (List.length ops0))) <|
        chk (decide ((0 : Int) ≤ i ∧ i < Int.ofNat (List.length ops0))) <|
        one (minI (List.getD ops3 (Int.toNat i) 0) 2305843009213693952) fun x2759 =>
        one (maxI 0 x2759) fun x2760 =>
        br (List.getD ops0 (Int.toNat i) 0 == 0)
          (out (pace_Rate p_s p_tick p_has p_rate p_now x2760 (List.getD ops2 (Int.toNat i) 0)) fun r2761 =>
           un_i r2761 fun x2762 r2763 =>
           un_i r2763 fun x2764 r2765 =>
           un_i r2765 fun x2766 r2767 =>
           un_i r2767 fun x2768 r2769 =>
           un_i r2769 fun x2770 r2771 =>
           un_nil r2771 <|
           out (rp_Rate w_S w_X w_Tick w_Has w_Now x2760 (List.getD ops2 (Int.toNat i) 0)) fun r2772 =>
           un_i r2772 fun x2773 r2774 =>
           un_i r2774 fun x2775 r2776 =>
           un_i r2776 fun x2777 r2778 =>
           un_i r2778 fun x2779 r2780 =>
           un_i r2780 fun x2781 r2782 =>
           un_nil r2782 <|
           out (pace_Cap x2762 x2764 x2766 x2768 x2770) fun r2783 =>
           un_i r2783 fun x2784 r2785 =>
           un_nil r2785 <|
           out (rp_Cap x2773 x2775 x2777 x2779 x2781) fun r2786 =>
           un_i r2786 fun x2787 r2788 =>
           un_nil r2788 <|
           br (x2784 != x2787)
             (kr [.li (ops0), .li (ops1), .li (ops2), .li (ops3), .b (false)])
             (one (addI .i64 i 1) fun x2789 =>
              chk (decide (Int.ofNat (List.length ops0) = Int.ofNat (List.length ops0)) && true) <|
              again (ops0) (ops1) (ops2) (ops3) (x2773) (x2775) (x2777) (x2779) (x2781) (x2762) (x2764) (x2766) (x2768) (x2770) (x2789)))
          (br (List.getD ops0 (Int.toNat i) 0 == 1)
             (out (pace_May p_s p_tick p_has p_rate p_now x2760 (List.getD ops1 (Int.toNat i) 0)) fun r2790 =>
              un_i r2790 fun x2791 r2792 =>
              un_i r2792 fun x2793 r2794 =>
              un_i r2794 fun x2795 r2796 =>
              un_i r2796 fun x2797 r2798 =>
              un_i r2798 fun x2799 r2800 =>
              un_b r2800 fun x2801 r2802 =>
              un_nil r2802 <|
              out (rp_Take w_S w_X w_Tick w_Has w_Now x2760 (List.getD ops1 (Int.toNat i) 0) false) fun r2803 =>
              un_i r2803 fun x2804 r2805 =>
              un_i r2805 fun x2806 r2807 =>
              un_i r2807 fun x2808 r2809 =>
              un_i r2809 fun x2810 r2811 =>
              un_i r2811 fun x2812 r2813 =>
              un_b r2813 fun x2814 r2815 =>
              un_nil r2815 <|
              br (!x2801 == x2814)
                (kr [.li (ops0), .li (ops1), .li (ops2), .li (ops3), .b (false)])
                (out (pace_Cap x2791 x2793 x2795 x2797 x2799) fun r2816 =>
                 un_i r2816 fun x2817 r2818 =>
                 un_nil r2818 <|
                 out (rp_Cap x2804 x2806 x2808 x2810 x2812) fun r2819 =>
                 un_i r2819 fun x2820 r2821 =>
                 un_nil r2821 <|
                 br (x2817 != x2820)
                   (kr [.li (ops0), .li (ops1), .li (ops2), .li (ops3), .b (false)])
                   (one (addI .i64 i 1) fun x2822 =>
                    chk (decide (Int.ofNat (List.length ops0) = Int.ofNat (List.length ops0)) && true) <|
                    again (ops0) (ops1) (ops2) (ops3) (x2804) (x2806) (x2808) (x2810) (x2812) (x2791) (x2793) (x2795) (x2797) (x2799) (x2822))))
             (br (List.getD ops0 (Int.toNat i) 0 == 2)
                (out (pace_Take p_s p_tick p_has p_rate p_now x2760 (List.getD ops1 (Int.toNat i) 0)) fun r2823 =>
                 un_i r2823 fun x2824 r2825 =>
                 un_i r2825 fun x2826 r2827 =>
                 un_i r2827 fun x2828 r2829 =>
                 un_i r2829 fun x2830 r2831 =>
                 un_i r2831 fun x2832 r2833 =>
                 un_b r2833 fun x2834 r2835 =>
                 un_nil r2835 <|
                 out (rp_Take w_S w_X w_Tick w_Has w_Now x2760 (List.getD ops1 (Int.toNat i) 0) true) fun r2836 =>
                 un_i r2836 fun x2837 r2838 =>
                 un_i r2838 fun x2839 r2840 =>
                 un_i r2840 fun x2841 r2842 =>
                 un_i r2842 fun x2843 r2844 =>
                 un_i r2844 fun x2845 r2846 =>
                 un_b r2846 fun x2847 r2848 =>
                 un_nil r2848 <|
                 br (!x2834 == x2847)
                   (kr [.li (ops0), .li (ops1), .li (ops2), .li (ops3), .b (false)])
                   (out (pace_Cap x2824 x2826 x2828 x2830 x2832) fun r2849 =>
                    un_i r2849 fun x2850 r2851 =>
                    un_nil r2851 <|
                    out (rp_Cap x2837 x2839 x2841 x2843 x2845) fun r2852 =>
                    un_i r2852 fun x2853 r2854 =>
                    un_nil r2854 <|
                    br (x2850 != x2853)
                      (kr [.li (ops0), .li (ops1), .li (ops2), .li (ops3), .b (false)])
                      (one (addI .i64 i 1) fun x2855 =>
                       chk (decide (Int.ofNat (List.length ops0) = Int.ofNat (List.length ops0)) && true) <|
                       again (ops0) (ops1) (ops2) (ops3) (x2837) (x2839) (x2841) (x2843) (x2845) (x2824) (x2826) (x2828) (x2830) (x2832) (x2855))))
                (out (pace_When p_s p_tick p_has p_rate p_now (List.getD ops1 (Int.toNat i) 0)) fun r2856 =>
                 un_i r2856 fun x2857 r2858 =>
                 un_nil r2858 <|
                 out (rp_When w_S w_X w_Tick w_Has w_Now (List.getD ops1 (Int.toNat i) 0)) fun r2859 =>
                 un_i r2859 fun x2860 r2861 =>
                 un_nil r2861 <|
                 br (x2857 != x2860)
                   (kr [.li (ops0), .li (ops1), .li (ops2), .li (ops3), .b (false)])
                   (out (pace_Cap p_s p_tick p_has p_rate p_now) fun r2862 =>
                    un_i r2862 fun x2863 r2864 =>
                    un_nil r2864 <|
                    out (rp_Cap w_S w_X w_Tick w_Has w_Now) fun r2865 =>
                    un_i r2865 fun x2866 r2867 =>
                    un_nil r2867 <|
                    br (x2863 != x2866)
                      (kr [.li (ops0), .li (ops1), .li (ops2), .li (ops3), .b (false)])
                      (one (addI .i64 i 1) fun x2868 =>
                       chk (decide (Int.ofNat (List.length ops0) = Int.ofNat (List.length ops0)) && true) <|
                       again (ops0) (ops1) (ops2) (ops3) (w_S) (w_X) (w_Tick) (w_Has) (w_Now) (p_s) (p_tick) (p_has) (p_rate) (p_now) (x2868)))))))
       (kx 0 [.li (ops0), .li (ops1), .li (ops2), .li (ops3)]))
    (kx 0 [.li (ops0), .li (ops1), .li (ops2), .li (ops3)])
def PaceAll_9_L {α : Type} (kx : Nat → List Leaf → Option α) (kr : List Leaf → Option α) : Nat → List Int → List Int → List Int → List Int → Int → Int → Int → Int → Int → Int → Int → Int → Int → Int → Int → Option α
  | 0, _, _, _, _, _, _, _, _, _, _, _, _, _, _, _ => none
  | n + 1, ops0, ops1, ops2, ops3, w_S, w_X, w_Tick, w_Has, w_Now, p_s, p_tick, p_has, p_rate, p_now, i => PaceAll_9_B  kx kr (PaceAll_9_L kx kr n) ops0 ops1 ops2 ops3 w_S w_X w_Tick w_Has w_Now p_s p_tick p_has p_rate p_now i
def PaceAll_9_F (L9 : ({β : Type} → (Nat → List Leaf → Option β) → (List Leaf → Option β) → Nat → List Int → List Int → List Int → List Int → Int → Int → Int → Int → Int → Int → Int → Int → Int → Int → Int → Option β)) {α : Type} (n : Nat) (ls : List Leaf) (kx : Nat → List Leaf → Option α) (kr : List Leaf → Option α) : Option α := un_li ls fun ops0 rr => un_li rr fun ops1 rr => un_li rr fun ops2 rr => un_li rr fun ops3 rr => un_i rr fun w_S rr => un_i rr fun w_X rr => un_i rr fun w_Tick rr => un_i rr fun w_Has rr => un_i rr fun w_Now rr => un_i rr fun p_s rr => un_i rr fun p_tick rr => un_i rr fun p_has rr => un_i rr fun p_rate rr => un_i rr fun p_now rr => un_i rr fun i rr => un_nil rr (L9 kx kr n ops0 ops1 ops2 ops3 w_S w_X w_Tick w_Has w_Now p_s p_tick p_has p_rate p_now i)
def PaceAll_d (L9 : ({β : Type} → (Nat → List Leaf → Option β) → (List Leaf → Option β) → Nat → List Int → List Int → List Int → List Int → Int → Int → Int → Int → Int → Int → Int → Int → Int → Int → Int → Option β)) (ops0 : List Int) (ops1 : List Int) (ops2 : List Int) (ops3 : List Int) (s : Int) (tick : Int) : Option (List Leaf) :=
  br (decide (s < 1))
    (br (decide (s < 1))
       (some [.b (true)])
       (br (decide (s > 1400))
          (some [.b (true)])
          (br (decide (tick < 0))
             (some [.b (true)])
             (br (decide (tick > 1000000))
                (some [.b (true)])
                (one (wrapI .u64 s) fun x2869 =>
                 one (wrapI .u64 tick) fun x2870 =>
                 none)))))
    (br (decide (s > 1400))
       (br (decide (s < 1))
          (some [.b (true)])
          (br (decide (s > 1400))
             (some [.b (true)])
             (br (decide (tick < 0))
                (some [.b (true)])
                (br (decide (tick > 1000000))
                   (some [.b (true)])
                   (one (wrapI .u64 s) fun x2871 =>
                    one (wrapI .u64 tick) fun x2872 =>
                    none)))))
       (br (decide (tick < 0))
          (br (decide (s < 1))
             (some [.b (true)])
             (br (decide (s > 1400))
                (some [.b (true)])
                (br (decide (tick < 0))
                   (some [.b (true)])
                   (br (decide (tick > 1000000))
                      (some [.b (true)])
                      (one (wrapI .u64 s) fun x2873 =>
                       one (wrapI .u64 tick) fun x2874 =>
                       none)))))
          (br (decide (tick > 1000000))
             (br (decide (s < 1))
                (some [.b (true)])
                (br (decide (s > 1400))
                   (some [.b (true)])
                   (br (decide (tick < 0))
                      (some [.b (true)])
                      (br (decide (tick > 1000000))
                         (some [.b (true)])
                         (one (wrapI .u64 s) fun x2875 =>
                          one (wrapI .u64 tick) fun x2876 =>
                          none)))))
             (one (wrapI .u64 s) fun x2877 =>
              one (wrapI .u64 tick) fun x2878 =>
              br (decide (s < 1))
                (some [.b (false)])
                (br (decide (s > 1400))
                   (some [.b (false)])
                   (br (decide (tick < 0))
                      (some [.b (false)])
                      (br (decide (tick > 1000000))
                         (some [.b (false)])
                         (one (wrapI .u64 s) fun x2879 =>
                          one (wrapI .u64 tick) fun x2880 =>
                          chk (decide (Int.ofNat (List.length ops0) = Int.ofNat (List.length ops0)) && true) <|
                          L9
                            (fun i2881 r2882 =>
                             br (Nat.beq 0 i2881)
                               (un_li r2882 fun x2883 r2884 =>
                                un_li r2884 fun x2885 r2886 =>
                                un_li r2886 fun x2887 r2888 =>
                                un_li r2888 fun x2889 r2890 =>
                                un_nil r2890 <|
                                some [.b (true)])
                               (none))
                            (fun r2891 =>
                             un_li r2891 fun x2892 r2893 =>
                             un_li r2893 fun x2894 r2895 =>
                             un_li r2895 fun x2896 r2897 =>
                             un_li r2897 fun x2898 r2899 =>
                             un_b r2899 fun x2900 r2901 =>
                             un_nil r2901 <|
                             some [.b (x2900)])
                            top (ops0) (ops1) (ops2) (ops3) (x2879) (0) (x2880) (0) (0) (x2877) (x2878) (0) (0) (0) (0)))))))))
def PaceAll (ops0 : List Int) (ops1 : List Int) (ops2 : List Int) (ops3 : List Int) (s : Int) (tick : Int) : Option (List Leaf) := PaceAll_d @PaceAll_9_L ops0 ops1 ops2 ops3 s tick
end Go.Sx.T

