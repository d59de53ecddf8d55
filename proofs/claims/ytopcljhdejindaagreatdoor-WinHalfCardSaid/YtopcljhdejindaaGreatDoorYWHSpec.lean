import Derived.Test.YtopcljhdejindaaGreatDoorYWinSpec
set_option linter.all false
namespace Go.Sx.T
open Go Go.Sx
def WinHalf_7_B  {α : Type} (kx : Nat → List Leaf → Option α) (kr : List Leaf → Option α) (again : List Int → Int → Int → Int → Int → Int → Bool → Int → Bool → Bool → Int → Bool → Int → Int → Int → Int → Int → Option α) (lost : List Int) (w_cwnd : Int) (w_slow : Int) (w_pipe : Int) (w_count : Int) (w_halved_n : Int) (w_halved_is : Bool) (w_last_n : Int) (w_last_is : Bool) (w_runs : Bool) (w_due : Int) (w_rtt_any : Bool) (w_rtt_smooth : Int) (w_rtt_spread : Int) (w_rtt_rto : Int) (i : Int) (n2 : Int) : Option α :=
  out (win_Cwnd w_cwnd w_slow w_pipe w_count w_halved_n w_halved_is w_last_n w_last_is w_runs w_due w_rtt_any w_rtt_smooth w_rtt_spread w_rtt_rto) fun r2516 =>
  un_i r2516 fun x2517 r2518 =>
  un_nil r2518 <|
  br (decide (x2517 < n2))
    (one (wrapI .u64 i) fun x2519 =>
     chk (decide (↑1 = Int.ofNat (List.length [remI .u64 x2519 281474976710656])) && (decide (0 = Int.ofNat 0) && (decide (0 = Int.ofNat 0) && true)) && true) <|
     out (win_Hear [remI .u64 x2519 281474976710656] [] [] w_cwnd w_slow w_pipe w_count w_halved_n w_halved_is w_last_n w_last_is w_runs w_due w_rtt_any w_rtt_smooth w_rtt_spread w_rtt_rto (remI .i64 (addI .i64 (remI .i64 0 3) 3) 3) (maxI (-1) (minI (-1) 1099511627776)) 0) fun r2520 =>
     un_i r2520 fun x2521 r2522 =>
     un_i r2522 fun x2523 r2524 =>
     un_i r2524 fun x2525 r2526 =>
     un_i r2526 fun x2527 r2528 =>
     un_i r2528 fun x2529 r2530 =>
     un_b r2530 fun x2531 r2532 =>
     un_i r2532 fun x2533 r2534 =>
     un_b r2534 fun x2535 r2536 =>
     un_b r2536 fun x2537 r2538 =>
     un_i r2538 fun x2539 r2540 =>
     un_b r2540 fun x2541 r2542 =>
     un_i r2542 fun x2543 r2544 =>
     un_i r2544 fun x2545 r2546 =>
     un_i r2546 fun x2547 r2548 =>
     un_nil r2548 <|
     one (addI .i64 i 1) fun x2549 =>
     chk (decide (Int.ofNat (List.length lost) = Int.ofNat (List.length lost)) && true) <|
     again (lost) (x2521) (x2523) (x2525) (x2527) (x2529) (x2531) (x2533) (x2535) (x2537) (x2539) (x2541) (x2543) (x2545) (x2547) (x2549) (n2))
    (chk (decide (Int.ofNat (List.length lost) = Int.ofNat (List.length lost)) && true) <|
     kx 0 [.li (lost), .i (w_cwnd), .i (w_slow), .i (w_pipe), .i (w_count), .i (w_halved_n), .b (w_halved_is), .i (w_last_n), .b (w_last_is), .b (w_runs), .i (w_due), .b (w_rtt_any), .i (w_rtt_smooth), .i (w_rtt_spread), .i (w_rtt_rto), .i (n2)])
def WinHalf_7_L {α : Type} (kx : Nat → List Leaf → Option α) (kr : List Leaf → Option α) : Nat → List Int → Int → Int → Int → Int → Int → Bool → Int → Bool → Bool → Int → Bool → Int → Int → Int → Int → Int → Option α
  | 0, _, _, _, _, _, _, _, _, _, _, _, _, _, _, _, _, _ => none
  | n + 1, lost, w_cwnd, w_slow, w_pipe, w_count, w_halved_n, w_halved_is, w_last_n, w_last_is, w_runs, w_due, w_rtt_any, w_rtt_smooth, w_rtt_spread, w_rtt_rto, i, n2 => WinHalf_7_B  kx kr (WinHalf_7_L kx kr n) lost w_cwnd w_slow w_pipe w_count w_halved_n w_halved_is w_last_n w_last_is w_runs w_due w_rtt_any w_rtt_smooth w_rtt_spread w_rtt_rto i n2
def WinHalf_7_F (L7 : ({β : Type} → (Nat → List Leaf → Option β) → (List Leaf → Option β) → Nat → List Int → Int → Int → Int → Int → Int → Bool → Int → Bool → Bool → Int → Bool → Int → Int → Int → Int → Int → Option β)) {α : Type} (n : Nat) (ls : List Leaf) (kx : Nat → List Leaf → Option α) (kr : List Leaf → Option α) : Option α := un_li ls fun lost rr => un_i rr fun w_cwnd rr => un_i rr fun w_slow rr => un_i rr fun w_pipe rr => un_i rr fun w_count rr => un_i rr fun w_halved_n rr => un_b rr fun w_halved_is rr => un_i rr fun w_last_n rr => un_b rr fun w_last_is rr => un_b rr fun w_runs rr => un_i rr fun w_due rr => un_b rr fun w_rtt_any rr => un_i rr fun w_rtt_smooth rr => un_i rr fun w_rtt_spread rr => un_i rr fun w_rtt_rto rr => un_i rr fun i rr => un_i rr fun n2 rr => un_nil rr (L7 kx kr n lost w_cwnd w_slow w_pipe w_count w_halved_n w_halved_is w_last_n w_last_is w_runs w_due w_rtt_any w_rtt_smooth w_rtt_spread w_rtt_rto i n2)
def WinHalf_13_B  {α : Type} (kx : Nat → List Leaf → Option α) (kr : List Leaf → Option α) (again : List Int → Int → Int → Int → Int → Int → Bool → Int → Bool → Bool → Int → Bool → Int → Int → Int → Int → Int → Int → Option α) (lost : List Int) (w_cwnd : Int) (w_slow : Int) (w_pipe : Int) (w_count : Int) (w_halved_n : Int) (w_halved_is : Bool) (w_last_n : Int) (w_last_is : Bool) (w_runs : Bool) (w_due : Int) (w_rtt_any : Bool) (w_rtt_smooth : Int) (w_rtt_spread : Int) (w_rtt_rto : Int) (i : Int) (top2 : Int) (n2 : Int) : Option α :=
  br (decide (i < n2))
    (one (wrapI .u64 i) fun x2652 =>
     one (addI .u64 top2 x2652) fun x2653 =>
     out (win_Sent w_cwnd w_slow w_pipe w_count w_halved_n w_halved_is w_last_n w_last_is w_runs w_due w_rtt_any w_rtt_smooth w_rtt_spread w_rtt_rto x2653 0) fun r2654 =>
     un_i r2654 fun x2655 r2656 =>
     un_i r2656 fun x2657 r2658 =>
     un_i r2658 fun x2659 r2660 =>
     un_i r2660 fun x2661 r2662 =>
     un_i r2662 fun x2663 r2664 =>
     un_b r2664 fun x2665 r2666 =>
     un_i r2666 fun x2667 r2668 =>
     un_b r2668 fun x2669 r2670 =>
     un_b r2670 fun x2671 r2672 =>
     un_i r2672 fun x2673 r2674 =>
     un_b r2674 fun x2675 r2676 =>
     un_i r2676 fun x2677 r2678 =>
     un_i r2678 fun x2679 r2680 =>
     un_i r2680 fun x2681 r2682 =>
     un_b r2682 fun x2683 r2684 =>
     un_nil r2684 <|
     br (!x2683)
       (kr [.li (lost), .b (false)])
       (one (addI .i64 i 1) fun x2685 =>
        chk (decide (Int.ofNat (List.length lost) = Int.ofNat (List.length lost)) && true) <|
        again (lost) (x2655) (x2657) (x2659) (x2661) (x2663) (x2665) (x2667) (x2669) (x2671) (x2673) (x2675) (x2677) (x2679) (x2681) (x2685) (top2) (n2)))
    (chk (decide (Int.ofNat (List.length lost) = Int.ofNat (List.length lost)) && true) <|
     kx 2 [.li (lost), .i (w_cwnd), .i (w_slow), .i (w_pipe), .i (w_count), .i (w_halved_n), .b (w_halved_is), .i (w_last_n), .b (w_last_is), .b (w_runs), .i (w_due), .b (w_rtt_any), .i (w_rtt_smooth), .i (w_rtt_spread), .i (w_rtt_rto), .i (n2), .i (top2)])
def WinHalf_13_L {α : Type} (kx : Nat → List Leaf → Option α) (kr : List Leaf → Option α) : Nat → List Int → Int → Int → Int → Int → Int → Bool → Int → Bool → Bool → Int → Bool → Int → Int → Int → Int → Int → Int → Option α
  | 0, _, _, _, _, _, _, _, _, _, _, _, _, _, _, _, _, _, _ => none
  | n + 1, lost, w_cwnd, w_slow, w_pipe, w_count, w_halved_n, w_halved_is, w_last_n, w_last_is, w_runs, w_due, w_rtt_any, w_rtt_smooth, w_rtt_spread, w_rtt_rto, i, top2, n2 => WinHalf_13_B  kx kr (WinHalf_13_L kx kr n) lost w_cwnd w_slow w_pipe w_count w_halved_n w_halved_is w_last_n w_last_is w_runs w_due w_rtt_any w_rtt_smooth w_rtt_spread w_rtt_rto i top2 n2
def WinHalf_13_F (L13 : ({β : Type} → (Nat → List Leaf → Option β) → (List Leaf → Option β) → Nat → List Int → Int → Int → Int → Int → Int → Bool → Int → Bool → Bool → Int → Bool → Int → Int → Int → Int → Int → Int → Option β)) {α : Type} (n : Nat) (ls : List Leaf) (kx : Nat → List Leaf → Option α) (kr : List Leaf → Option α) : Option α := un_li ls fun lost rr => un_i rr fun w_cwnd rr => un_i rr fun w_slow rr => un_i rr fun w_pipe rr => un_i rr fun w_count rr => un_i rr fun w_halved_n rr => un_b rr fun w_halved_is rr => un_i rr fun w_last_n rr => un_b rr fun w_last_is rr => un_b rr fun w_runs rr => un_i rr fun w_due rr => un_b rr fun w_rtt_any rr => un_i rr fun w_rtt_smooth rr => un_i rr fun w_rtt_spread rr => un_i rr fun w_rtt_rto rr => un_i rr fun i rr => un_i rr fun top2 rr => un_i rr fun n2 rr => un_nil rr (L13 kx kr n lost w_cwnd w_slow w_pipe w_count w_halved_n w_halved_is w_last_n w_last_is w_runs w_due w_rtt_any w_rtt_smooth w_rtt_spread w_rtt_rto i top2 n2)
def WinHalf_19_B  {α : Type} (kx : Nat → List Leaf → Option α) (kr : List Leaf → Option α) (again : List Int → Int → Int → Int → Int → Int → Bool → Int → Bool → Bool → Int → Bool → Int → Int → Int → Int → Int → Int → Int → Option α) (lost : List Int) (w_cwnd : Int) (w_slow : Int) (w_pipe : Int) (w_count : Int) (w_halved_n : Int) (w_halved_is : Bool) (w_last_n : Int) (w_last_is : Bool) (w_runs : Bool) (w_due : Int) (w_rtt_any : Bool) (w_rtt_smooth : Int) (w_rtt_spread : Int) (w_rtt_rto : Int) (i : Int) (was : Int) (n2 : Int) (top2 : Int) : Option α :=
  one (Int.ofNat (List.length lost)) fun x2842 =>
  br (decide (i < x2842))
    (br (decide (i < 10))
       (chk (decide (0 ≤ i ∧ i < Int.ofNat (List.length lost))) <|
        chk (decide (0 ≤ i ∧ i < Int.ofNat (List.length lost))) <|
        chk (decide (n2 ≠ 0)) <|
        one (remI .i64 (List.getD lost (Int.toNat i) 0) n2) fun x2843 =>
        one (addI .i64 x2843 n2) fun x2844 =>
        chk (decide (n2 ≠ 0)) <|
        one (remI .i64 x2844 n2) fun x2845 =>
        one (wrapI .u64 x2845) fun x2846 =>
        one (addI .u64 top2 x2846) fun x2847 =>
        chk (decide (0 = Int.ofNat 0) && (decide (0 = Int.ofNat 0) && (decide (↑1 = Int.ofNat (List.length [remI .u64 x2847 281474976710656])) && true)) && true) <|
        out (win_Hear [] [] [remI .u64 x2847 281474976710656] w_cwnd w_slow w_pipe w_count w_halved_n w_halved_is w_last_n w_last_is w_runs w_due w_rtt_any w_rtt_smooth w_rtt_spread w_rtt_rto (remI .i64 (addI .i64 (remI .i64 0 3) 3) 3) (maxI (-1) (minI (-1) 1099511627776)) 0) fun r2848 =>
        un_i r2848 fun x2849 r2850 =>
        un_i r2850 fun x2851 r2852 =>
        un_i r2852 fun x2853 r2854 =>
        un_i r2854 fun x2855 r2856 =>
        un_i r2856 fun x2857 r2858 =>
        un_b r2858 fun x2859 r2860 =>
        un_i r2860 fun x2861 r2862 =>
        un_b r2862 fun x2863 r2864 =>
        un_b r2864 fun x2865 r2866 =>
        un_i r2866 fun x2867 r2868 =>
        un_b r2868 fun x2869 r2870 =>
        un_i r2870 fun x2871 r2872 =>
        un_i r2872 fun x2873 r2874 =>
        un_i r2874 fun x2875 r2876 =>
        un_nil r2876 <|
        out (win_Cwnd x2849 x2851 x2853 x2855 x2857 x2859 x2861 x2863 x2865 x2867 x2869 x2871 x2873 x2875) fun r2877 =>
        un_i r2877 fun x2878 r2879 =>
        un_nil r2879 <|
        one (quoI .i64 was 2) fun x2880 =>
        br (x2878 != x2880)
          (kr [.li (lost), .b (false)])
          (out (win_Slow x2849 x2851 x2853 x2855 x2857 x2859 x2861 x2863 x2865 x2867 x2869 x2871 x2873 x2875) fun r2881 =>
           un_i r2881 fun x2882 r2883 =>
           un_nil r2883 <|
           one (quoI .i64 was 2) fun x2884 =>
           br (x2882 != x2884)
             (kr [.li (lost), .b (false)])
             (one (addI .i64 i 1) fun x2885 =>
              chk (decide (Int.ofNat (List.length lost) = Int.ofNat (List.length lost)) && true) <|
              again (lost) (x2849) (x2851) (x2853) (x2855) (x2857) (x2859) (x2861) (x2863) (x2865) (x2867) (x2869) (x2871) (x2873) (x2875) (x2885) (was) (n2) (top2))))
       (chk (decide (Int.ofNat (List.length lost) = Int.ofNat (List.length lost)) && true) <|
        kx 4 [.li (lost), .i (w_cwnd), .i (w_slow), .i (w_pipe), .i (w_count), .i (w_halved_n), .b (w_halved_is), .i (w_last_n), .b (w_last_is), .b (w_runs), .i (w_due), .b (w_rtt_any), .i (w_rtt_smooth), .i (w_rtt_spread), .i (w_rtt_rto), .i (was), .i (top2)]))
    (chk (decide (Int.ofNat (List.length lost) = Int.ofNat (List.length lost)) && true) <|
     kx 4 [.li (lost), .i (w_cwnd), .i (w_slow), .i (w_pipe), .i (w_count), .i (w_halved_n), .b (w_halved_is), .i (w_last_n), .b (w_last_is), .b (w_runs), .i (w_due), .b (w_rtt_any), .i (w_rtt_smooth), .i (w_rtt_spread), .i (w_rtt_rto), .i (was), .i (top2)])
def WinHalf_19_L {α : Type} (kx : Nat → List Leaf → Option α) (kr : List Leaf → Option α) : Nat → List Int → Int → Int → Int → Int → Int → Bool → Int → Bool → Bool → Int → Bool → Int → Int → Int → Int → Int → Int → Int → Option α
  | 0, _, _, _, _, _, _, _, _, _, _, _, _, _, _, _, _, _, _, _ => none
  | n + 1, lost, w_cwnd, w_slow, w_pipe, w_count, w_halved_n, w_halved_is, w_last_n, w_last_is, w_runs, w_due, w_rtt_any, w_rtt_smooth, w_rtt_spread, w_rtt_rto, i, was, n2, top2 => WinHalf_19_B  kx kr (WinHalf_19_L kx kr n) lost w_cwnd w_slow w_pipe w_count w_halved_n w_halved_is w_last_n w_last_is w_runs w_due w_rtt_any w_rtt_smooth w_rtt_spread w_rtt_rto i was n2 top2
def WinHalf_19_F (L19 : ({β : Type} → (Nat → List Leaf → Option β) → (List Leaf → Option β) → Nat → List Int → Int → Int → Int → Int → Int → Bool → Int → Bool → Bool → Int → Bool → Int → Int → Int → Int → Int → Int → Int → Option β)) {α : Type} (n : Nat) (ls : List Leaf) (kx : Nat → List Leaf → Option α) (kr : List Leaf → Option α) : Option α := un_li ls fun lost rr => un_i rr fun w_cwnd rr => un_i rr fun w_slow rr => un_i rr fun w_pipe rr => un_i rr fun w_count rr => un_i rr fun w_halved_n rr => un_b rr fun w_halved_is rr => un_i rr fun w_last_n rr => un_b rr fun w_last_is rr => un_b rr fun w_runs rr => un_i rr fun w_due rr => un_b rr fun w_rtt_any rr => un_i rr fun w_rtt_smooth rr => un_i rr fun w_rtt_spread rr => un_i rr fun w_rtt_rto rr => un_i rr fun i rr => un_i rr fun was rr => un_i rr fun n2 rr => un_i rr fun top2 rr => un_nil rr (L19 kx kr n lost w_cwnd w_slow w_pipe w_count w_halved_n w_halved_is w_last_n w_last_is w_runs w_due w_rtt_any w_rtt_smooth w_rtt_spread w_rtt_rto i was n2 top2)
def WinHalf_28_B  {α : Type} (kx : Nat → List Leaf → Option α) (kr : List Leaf → Option α) (again : List Int → Int → Int → Int → Int → Int → Bool → Int → Bool → Bool → Int → Bool → Int → Int → Int → Int → Int → Option α) (lost : List Int) (w_cwnd : Int) (w_slow : Int) (w_pipe : Int) (w_count : Int) (w_halved_n : Int) (w_halved_is : Bool) (w_last_n : Int) (w_last_is : Bool) (w_runs : Bool) (w_due : Int) (w_rtt_any : Bool) (w_rtt_smooth : Int) (w_rtt_spread : Int) (w_rtt_rto : Int) (top2 : Int) (half : Int) : Option α :=
  out (win_May w_cwnd w_slow w_pipe w_count w_halved_n w_halved_is w_last_n w_last_is w_runs w_due w_rtt_any w_rtt_smooth w_rtt_spread w_rtt_rto) fun r3078 =>
  un_b r3078 fun x3079 r3080 =>
  un_nil r3080 <|
  br (!x3079)
    (chk (decide (0 = Int.ofNat 0) && (decide (0 = Int.ofNat 0) && (decide (↑1 = Int.ofNat (List.length [remI .u64 top2 281474976710656])) && true)) && true) <|
     out (win_Hear [] [] [remI .u64 top2 281474976710656] w_cwnd w_slow w_pipe w_count w_halved_n w_halved_is w_last_n w_last_is w_runs w_due w_rtt_any w_rtt_smooth w_rtt_spread w_rtt_rto (remI .i64 (addI .i64 (remI .i64 0 3) 3) 3) (maxI (-1) (minI (-1) 1099511627776)) 0) fun r3081 =>
     un_i r3081 fun x3082 r3083 =>
     un_i r3083 fun x3084 r3085 =>
     un_i r3085 fun x3086 r3087 =>
     un_i r3087 fun x3088 r3089 =>
     un_i r3089 fun x3090 r3091 =>
     un_b r3091 fun x3092 r3093 =>
     un_i r3093 fun x3094 r3095 =>
     un_b r3095 fun x3096 r3097 =>
     un_b r3097 fun x3098 r3099 =>
     un_i r3099 fun x3100 r3101 =>
     un_b r3101 fun x3102 r3103 =>
     un_i r3103 fun x3104 r3105 =>
     un_i r3105 fun x3106 r3107 =>
     un_i r3107 fun x3108 r3109 =>
     un_nil r3109 <|
     again (lost) (x3082) (x3084) (x3086) (x3088) (x3090) (x3092) (x3094) (x3096) (x3098) (x3100) (x3102) (x3104) (x3106) (x3108) (top2) (half))
    (kx 6 [.li (lost), .i (w_cwnd), .i (w_slow), .i (w_pipe), .i (w_count), .i (w_halved_n), .b (w_halved_is), .i (w_last_n), .b (w_last_is), .b (w_runs), .i (w_due), .b (w_rtt_any), .i (w_rtt_smooth), .i (w_rtt_spread), .i (w_rtt_rto), .i (half), .i (top2)])
def WinHalf_28_L {α : Type} (kx : Nat → List Leaf → Option α) (kr : List Leaf → Option α) : Nat → List Int → Int → Int → Int → Int → Int → Bool → Int → Bool → Bool → Int → Bool → Int → Int → Int → Int → Int → Option α
  | 0, _, _, _, _, _, _, _, _, _, _, _, _, _, _, _, _, _ => none
  | n + 1, lost, w_cwnd, w_slow, w_pipe, w_count, w_halved_n, w_halved_is, w_last_n, w_last_is, w_runs, w_due, w_rtt_any, w_rtt_smooth, w_rtt_spread, w_rtt_rto, top2, half => WinHalf_28_B  kx kr (WinHalf_28_L kx kr n) lost w_cwnd w_slow w_pipe w_count w_halved_n w_halved_is w_last_n w_last_is w_runs w_due w_rtt_any w_rtt_smooth w_rtt_spread w_rtt_rto top2 half
def WinHalf_28_F (L28 : ({β : Type} → (Nat → List Leaf → Option β) → (List Leaf → Option β) → Nat → List Int → Int → Int → Int → Int → Int → Bool → Int → Bool → Bool → Int → Bool → Int → Int → Int → Int → Int → Option β)) {α : Type} (n : Nat) (ls : List Leaf) (kx : Nat → List Leaf → Option α) (kr : List Leaf → Option α) : Option α := un_li ls fun lost rr => un_i rr fun w_cwnd rr => un_i rr fun w_slow rr => un_i rr fun w_pipe rr => un_i rr fun w_count rr => un_i rr fun w_halved_n rr => un_b rr fun w_halved_is rr => un_i rr fun w_last_n rr => un_b rr fun w_last_is rr => un_b rr fun w_runs rr => un_i rr fun w_due rr => un_b rr fun w_rtt_any rr => un_i rr fun w_rtt_smooth rr => un_i rr fun w_rtt_spread rr => un_i rr fun w_rtt_rto rr => un_i rr fun top2 rr => un_i rr fun half rr => un_nil rr (L28 kx kr n lost w_cwnd w_slow w_pipe w_count w_halved_n w_halved_is w_last_n w_last_is w_runs w_due w_rtt_any w_rtt_smooth w_rtt_spread w_rtt_rto top2 half)
def WinHalf_d (L7 : ({β : Type} → (Nat → List Leaf → Option β) → (List Leaf → Option β) → Nat → List Int → Int → Int → Int → Int → Int → Bool → Int → Bool → Bool → Int → Bool → Int → Int → Int → Int → Int → Option β)) (L13 : ({β : Type} → (Nat → List Leaf → Option β) → (List Leaf → Option β) → Nat → List Int → Int → Int → Int → Int → Int → Bool → Int → Bool → Bool → Int → Bool → Int → Int → Int → Int → Int → Int → Option β)) (L19 : ({β : Type} → (Nat → List Leaf → Option β) → (List Leaf → Option β) → Nat → List Int → Int → Int → Int → Int → Int → Bool → Int → Bool → Bool → Int → Bool → Int → Int → Int → Int → Int → Int → Int → Option β)) (L28 : ({β : Type} → (Nat → List Leaf → Option β) → (List Leaf → Option β) → Nat → List Int → Int → Int → Int → Int → Int → Bool → Int → Bool → Bool → Int → Bool → Int → Int → Int → Int → Int → Option β)) (lost : List Int) (n2 : Int) : Option (List Leaf) :=
  one (remI .i64 n2 40) fun x3110 =>
  one (addI .i64 x3110 40) fun x3111 =>
  one (remI .i64 x3111 40) fun x3112 =>
  one (addI .i64 4 x3112) fun x3113 =>
  out (win_New) fun r3114 =>
  un_i r3114 fun x3115 r3116 =>
  un_i r3116 fun x3117 r3118 =>
  un_i r3118 fun x3119 r3120 =>
  un_i r3120 fun x3121 r3122 =>
  un_i r3122 fun x3123 r3124 =>
  un_b r3124 fun x3125 r3126 =>
  un_i r3126 fun x3127 r3128 =>
  un_b r3128 fun x3129 r3130 =>
  un_b r3130 fun x3131 r3132 =>
  un_i r3132 fun x3133 r3134 =>
  un_b r3134 fun x3135 r3136 =>
  un_i r3136 fun x3137 r3138 =>
  un_i r3138 fun x3139 r3140 =>
  un_i r3140 fun x3141 r3142 =>
  un_nil r3142 <|
  chk (decide (Int.ofNat (List.length lost) = Int.ofNat (List.length lost)) && true) <|
  L7
    (fun i3143 r3144 =>
     br (Nat.beq 0 i3143)
       (un_li r3144 fun x3145 r3146 =>
        un_i r3146 fun x3147 r3148 =>
        un_i r3148 fun x3149 r3150 =>
        un_i r3150 fun x3151 r3152 =>
        un_i r3152 fun x3153 r3154 =>
        un_i r3154 fun x3155 r3156 =>
        un_b r3156 fun x3157 r3158 =>
        un_i r3158 fun x3159 r3160 =>
        un_b r3160 fun x3161 r3162 =>
        un_b r3162 fun x3163 r3164 =>
        un_i r3164 fun x3165 r3166 =>
        un_b r3166 fun x3167 r3168 =>
        un_i r3168 fun x3169 r3170 =>
        un_i r3170 fun x3171 r3172 =>
        un_i r3172 fun x3173 r3174 =>
        un_i r3174 fun x3175 r3176 =>
        un_nil r3176 <|
        chk (decide (Int.ofNat (List.length x3145) = Int.ofNat (List.length x3145)) && true) <|
        L13
          (fun i3177 r3178 =>
           br (Nat.beq 2 i3177)
             (un_li r3178 fun x3179 r3180 =>
              un_i r3180 fun x3181 r3182 =>
              un_i r3182 fun x3183 r3184 =>
              un_i r3184 fun x3185 r3186 =>
              un_i r3186 fun x3187 r3188 =>
              un_i r3188 fun x3189 r3190 =>
              un_b r3190 fun x3191 r3192 =>
              un_i r3192 fun x3193 r3194 =>
              un_b r3194 fun x3195 r3196 =>
              un_b r3196 fun x3197 r3198 =>
              un_i r3198 fun x3199 r3200 =>
              un_b r3200 fun x3201 r3202 =>
              un_i r3202 fun x3203 r3204 =>
              un_i r3204 fun x3205 r3206 =>
              un_i r3206 fun x3207 r3208 =>
              un_i r3208 fun x3209 r3210 =>
              un_i r3210 fun x3211 r3212 =>
              un_nil r3212 <|
              out (win_Cwnd x3181 x3183 x3185 x3187 x3189 x3191 x3193 x3195 x3197 x3199 x3201 x3203 x3205 x3207) fun r3213 =>
              un_i r3213 fun x3214 r3215 =>
              un_nil r3215 <|
              chk (decide (Int.ofNat (List.length x3179) = Int.ofNat (List.length x3179)) && true) <|
              L19
                (fun i3216 r3217 =>
                 br (Nat.beq 4 i3216)
                   (un_li r3217 fun x3218 r3219 =>
                    un_i r3219 fun x3220 r3221 =>
                    un_i r3221 fun x3222 r3223 =>
                    un_i r3223 fun x3224 r3225 =>
                    un_i r3225 fun x3226 r3227 =>
                    un_i r3227 fun x3228 r3229 =>
                    un_b r3229 fun x3230 r3231 =>
                    un_i r3231 fun x3232 r3233 =>
                    un_b r3233 fun x3234 r3235 =>
                    un_b r3235 fun x3236 r3237 =>
                    un_i r3237 fun x3238 r3239 =>
                    un_b r3239 fun x3240 r3241 =>
                    un_i r3241 fun x3242 r3243 =>
                    un_i r3243 fun x3244 r3245 =>
                    un_i r3245 fun x3246 r3247 =>
                    un_i r3247 fun x3248 r3249 =>
                    un_i r3249 fun x3250 r3251 =>
                    un_nil r3251 <|
                    one (Int.ofNat (List.length x3218)) fun x3252 =>
                    br (x3252 == 0)
                      (out (win_Cwnd x3220 x3222 x3224 x3226 x3228 x3230 x3232 x3234 x3236 x3238 x3240 x3242 x3244 x3246) fun r3253 =>
                       un_i r3253 fun x3254 r3255 =>
                       un_nil r3255 <|
                       some [.b (x3254 == x3248)])
                      (out (win_Cwnd x3220 x3222 x3224 x3226 x3228 x3230 x3232 x3234 x3236 x3238 x3240 x3242 x3244 x3246) fun r3256 =>
                       un_i r3256 fun x3257 r3258 =>
                       un_nil r3258 <|
                       L28
                         (fun i3259 r3260 =>
                          br (Nat.beq 6 i3259)
                            (un_li r3260 fun x3261 r3262 =>
                             un_i r3262 fun x3263 r3264 =>
                             un_i r3264 fun x3265 r3266 =>
                             un_i r3266 fun x3267 r3268 =>
                             un_i r3268 fun x3269 r3270 =>
                             un_i r3270 fun x3271 r3272 =>
                             un_b r3272 fun x3273 r3274 =>
                             un_i r3274 fun x3275 r3276 =>
                             un_b r3276 fun x3277 r3278 =>
                             un_b r3278 fun x3279 r3280 =>
                             un_i r3280 fun x3281 r3282 =>
                             un_b r3282 fun x3283 r3284 =>
                             un_i r3284 fun x3285 r3286 =>
                             un_i r3286 fun x3287 r3288 =>
                             un_i r3288 fun x3289 r3290 =>
                             un_i r3290 fun x3291 r3292 =>
                             un_i r3292 fun x3293 r3294 =>
                             un_nil r3294 <|
                             one (addI .u64 x3293 500) fun x3295 =>
                             out (win_Sent x3263 x3265 x3267 x3269 x3271 x3273 x3275 x3277 x3279 x3281 x3283 x3285 x3287 x3289 x3295 0) fun r3296 =>
                             un_i r3296 fun x3297 r3298 =>
                             un_i r3298 fun x3299 r3300 =>
                             un_i r3300 fun x3301 r3302 =>
                             un_i r3302 fun x3303 r3304 =>
                             un_i r3304 fun x3305 r3306 =>
                             un_b r3306 fun x3307 r3308 =>
                             un_i r3308 fun x3309 r3310 =>
                             un_b r3310 fun x3311 r3312 =>
                             un_b r3312 fun x3313 r3314 =>
                             un_i r3314 fun x3315 r3316 =>
                             un_b r3316 fun x3317 r3318 =>
                             un_i r3318 fun x3319 r3320 =>
                             un_i r3320 fun x3321 r3322 =>
                             un_i r3322 fun x3323 r3324 =>
                             un_b r3324 fun x3325 r3326 =>
                             un_nil r3326 <|
                             one (addI .u64 x3293 500) fun x3327 =>
                             chk (decide (0 = Int.ofNat 0) && (decide (0 = Int.ofNat 0) && (decide (↑1 = Int.ofNat (List.length [remI .u64 x3327 281474976710656])) && true)) && true) <|
                             out (win_Hear [] [] [remI .u64 x3327 281474976710656] x3297 x3299 x3301 x3303 x3305 x3307 x3309 x3311 x3313 x3315 x3317 x3319 x3321 x3323 (remI .i64 (addI .i64 (remI .i64 0 3) 3) 3) (maxI (-1) (minI (-1) 1099511627776)) 0) fun r3328 =>
                             un_i r3328 fun x3329 r3330 =>
                             un_i r3330 fun x3331 r3332 =>
                             un_i r3332 fun x3333 r3334 =>
                             un_i r3334 fun x3335 r3336 =>
                             un_i r3336 fun x3337 r3338 =>
                             un_b r3338 fun x3339 r3340 =>
                             un_i r3340 fun x3341 r3342 =>
                             un_b r3342 fun x3343 r3344 =>
                             un_b r3344 fun x3345 r3346 =>
                             un_i r3346 fun x3347 r3348 =>
                             un_b r3348 fun x3349 r3350 =>
                             un_i r3350 fun x3351 r3352 =>
                             un_i r3352 fun x3353 r3354 =>
                             un_i r3354 fun x3355 r3356 =>
                             un_nil r3356 <|
                             out (win_Cwnd x3329 x3331 x3333 x3335 x3337 x3339 x3341 x3343 x3345 x3347 x3349 x3351 x3353 x3355) fun r3357 =>
                             un_i r3357 fun x3358 r3359 =>
                             un_nil r3359 <|
                             one (quoI .i64 x3291 2) fun x3360 =>
                             one (maxI x3360 1) fun x3361 =>
                             some [.b (x3358 == x3361)])
                            (none))
                         (fun r3362 =>
                          un_nil r3362 <|
                          none)
                         top (x3218) (x3220) (x3222) (x3224) (x3226) (x3228) (x3230) (x3232) (x3234) (x3236) (x3238) (x3240) (x3242) (x3244) (x3246) (x3250) (x3257)))
                   (none))
                (fun r3363 =>
                 un_li r3363 fun x3364 r3365 =>
                 un_b r3365 fun x3366 r3367 =>
                 un_nil r3367 <|
                 some [.b (x3366)])
                top (x3179) (x3181) (x3183) (x3185) (x3187) (x3189) (x3191) (x3193) (x3195) (x3197) (x3199) (x3201) (x3203) (x3205) (x3207) (0) (x3214) (x3209) (x3211))
             (none))
          (fun r3368 =>
           un_li r3368 fun x3369 r3370 =>
           un_b r3370 fun x3371 r3372 =>
           un_nil r3372 <|
           some [.b (x3371)])
          top (x3145) (x3147) (x3149) (x3151) (x3153) (x3155) (x3157) (x3159) (x3161) (x3163) (x3165) (x3167) (x3169) (x3171) (x3173) (0) (1000) (x3175))
       (none))
    (fun r3373 =>
     un_nil r3373 <|
     none)
    top (lost) (x3115) (x3117) (x3119) (x3121) (x3123) (x3125) (x3127) (x3129) (x3131) (x3133) (x3135) (x3137) (x3139) (x3141) (0) (x3113)
def WinHalf (lost : List Int) (n2 : Int) : Option (List Leaf) := WinHalf_d @WinHalf_7_L @WinHalf_13_L @WinHalf_19_L @WinHalf_28_L lost n2
end Go.Sx.T

