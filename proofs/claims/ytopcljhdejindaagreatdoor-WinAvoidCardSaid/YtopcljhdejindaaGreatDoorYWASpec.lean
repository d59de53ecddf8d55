import Derived.Test.YtopcljhdejindaaGreatDoorYWinSpec
set_option linter.all false
namespace Go.Sx.T
open Go Go.Sx
def WinAvoid_6_B  {α : Type} (kx : Nat → List Leaf → Option α) (kr : List Leaf → Option α) (again : Int → Int → Int → Int → Int → Bool → Int → Bool → Bool → Int → Bool → Int → Int → Int → Int → Int → Option α) (w_cwnd : Int) (w_slow : Int) (w_pipe : Int) (w_count : Int) (w_halved_n : Int) (w_halved_is : Bool) (w_last_n : Int) (w_last_is : Bool) (w_runs : Bool) (w_due : Int) (w_rtt_any : Bool) (w_rtt_smooth : Int) (w_rtt_spread : Int) (w_rtt_rto : Int) (n2 : Int) (more : Int) : Option α :=
  out (win_Cwnd w_cwnd w_slow w_pipe w_count w_halved_n w_halved_is w_last_n w_last_is w_runs w_due w_rtt_any w_rtt_smooth w_rtt_spread w_rtt_rto) fun r4695 =>
  un_i r4695 fun x4696 r4697 =>
  un_nil r4697 <|
  br (decide (x4696 < n2))
    (chk (decide (↑1 = Int.ofNat (List.length [remI .u64 1 281474976710656])) && (decide (0 = Int.ofNat 0) && (decide (0 = Int.ofNat 0) && true)) && true) <|
     out (win_Hear [remI .u64 1 281474976710656] [] [] w_cwnd w_slow w_pipe w_count w_halved_n w_halved_is w_last_n w_last_is w_runs w_due w_rtt_any w_rtt_smooth w_rtt_spread w_rtt_rto (remI .i64 (addI .i64 (remI .i64 0 3) 3) 3) (maxI (-1) (minI (-1) 1099511627776)) 0) fun r4698 =>
     un_i r4698 fun x4699 r4700 =>
     un_i r4700 fun x4701 r4702 =>
     un_i r4702 fun x4703 r4704 =>
     un_i r4704 fun x4705 r4706 =>
     un_i r4706 fun x4707 r4708 =>
     un_b r4708 fun x4709 r4710 =>
     un_i r4710 fun x4711 r4712 =>
     un_b r4712 fun x4713 r4714 =>
     un_b r4714 fun x4715 r4716 =>
     un_i r4716 fun x4717 r4718 =>
     un_b r4718 fun x4719 r4720 =>
     un_i r4720 fun x4721 r4722 =>
     un_i r4722 fun x4723 r4724 =>
     un_i r4724 fun x4725 r4726 =>
     un_nil r4726 <|
     again (x4699) (x4701) (x4703) (x4705) (x4707) (x4709) (x4711) (x4713) (x4715) (x4717) (x4719) (x4721) (x4723) (x4725) (n2) (more))
    (kx 0 [.i (w_cwnd), .i (w_slow), .i (w_pipe), .i (w_count), .i (w_halved_n), .b (w_halved_is), .i (w_last_n), .b (w_last_is), .b (w_runs), .i (w_due), .b (w_rtt_any), .i (w_rtt_smooth), .i (w_rtt_spread), .i (w_rtt_rto), .i (n2), .i (more)])
def WinAvoid_6_L {α : Type} (kx : Nat → List Leaf → Option α) (kr : List Leaf → Option α) : Nat → Int → Int → Int → Int → Int → Bool → Int → Bool → Bool → Int → Bool → Int → Int → Int → Int → Int → Option α
  | 0, _, _, _, _, _, _, _, _, _, _, _, _, _, _, _, _ => none
  | n + 1, w_cwnd, w_slow, w_pipe, w_count, w_halved_n, w_halved_is, w_last_n, w_last_is, w_runs, w_due, w_rtt_any, w_rtt_smooth, w_rtt_spread, w_rtt_rto, n2, more => WinAvoid_6_B  kx kr (WinAvoid_6_L kx kr n) w_cwnd w_slow w_pipe w_count w_halved_n w_halved_is w_last_n w_last_is w_runs w_due w_rtt_any w_rtt_smooth w_rtt_spread w_rtt_rto n2 more
def WinAvoid_6_F (L6 : ({β : Type} → (Nat → List Leaf → Option β) → (List Leaf → Option β) → Nat → Int → Int → Int → Int → Int → Bool → Int → Bool → Bool → Int → Bool → Int → Int → Int → Int → Int → Option β)) {α : Type} (n : Nat) (ls : List Leaf) (kx : Nat → List Leaf → Option α) (kr : List Leaf → Option α) : Option α := un_i ls fun w_cwnd rr => un_i rr fun w_slow rr => un_i rr fun w_pipe rr => un_i rr fun w_count rr => un_i rr fun w_halved_n rr => un_b rr fun w_halved_is rr => un_i rr fun w_last_n rr => un_b rr fun w_last_is rr => un_b rr fun w_runs rr => un_i rr fun w_due rr => un_b rr fun w_rtt_any rr => un_i rr fun w_rtt_smooth rr => un_i rr fun w_rtt_spread rr => un_i rr fun w_rtt_rto rr => un_i rr fun n2 rr => un_i rr fun more rr => un_nil rr (L6 kx kr n w_cwnd w_slow w_pipe w_count w_halved_n w_halved_is w_last_n w_last_is w_runs w_due w_rtt_any w_rtt_smooth w_rtt_spread w_rtt_rto n2 more)
def WinAvoid_13_B  {α : Type} (kx : Nat → List Leaf → Option α) (kr : List Leaf → Option α) (again : Int → Int → Int → Int → Int → Bool → Int → Bool → Bool → Int → Bool → Int → Int → Int → Int → Int → Int → Int → Int → Option α) (w_cwnd : Int) (w_slow : Int) (w_pipe : Int) (w_count : Int) (w_halved_n : Int) (w_halved_is : Bool) (w_last_n : Int) (w_last_is : Bool) (w_runs : Bool) (w_due : Int) (w_rtt_any : Bool) (w_rtt_smooth : Int) (w_rtt_spread : Int) (w_rtt_rto : Int) (i : Int) (cwnd : Int) (count : Int) (n2 : Int) (more : Int) : Option α :=
  br (decide (i < more))
    (one (addI .i64 60 i) fun x4901 =>
     one (wrapI .u64 x4901) fun x4902 =>
     chk (decide (↑1 = Int.ofNat (List.length [x4902])) && (decide (0 = Int.ofNat 0) && (decide (0 = Int.ofNat 0) && true)) && true) <|
     out (win_Hear [x4902] [] [] w_cwnd w_slow w_pipe w_count w_halved_n w_halved_is w_last_n w_last_is w_runs w_due w_rtt_any w_rtt_smooth w_rtt_spread w_rtt_rto 0 (-1) 0) fun r4903 =>
     un_i r4903 fun x4904 r4905 =>
     un_i r4905 fun x4906 r4907 =>
     un_i r4907 fun x4908 r4909 =>
     un_i r4909 fun x4910 r4911 =>
     un_i r4911 fun x4912 r4913 =>
     un_b r4913 fun x4914 r4915 =>
     un_i r4915 fun x4916 r4917 =>
     un_b r4917 fun x4918 r4919 =>
     un_b r4919 fun x4920 r4921 =>
     un_i r4921 fun x4922 r4923 =>
     un_b r4923 fun x4924 r4925 =>
     un_i r4925 fun x4926 r4927 =>
     un_i r4927 fun x4928 r4929 =>
     un_i r4929 fun x4930 r4931 =>
     un_nil r4931 <|
     one (addI .i64 count 1) fun x4932 =>
     br (decide (x4932 ≥ cwnd))
       (one (subI .i64 x4932 cwnd) fun x4933 =>
        one (addI .i64 cwnd 1) fun x4934 =>
        out (win_Cwnd x4904 x4906 x4908 x4910 x4912 x4914 x4916 x4918 x4920 x4922 x4924 x4926 x4928 x4930) fun r4935 =>
        un_i r4935 fun x4936 r4937 =>
        un_nil r4937 <|
        br (x4936 != x4934)
          (kr [.b (false)])
          (one (addI .i64 i 1) fun x4938 =>
           again (x4904) (x4906) (x4908) (x4910) (x4912) (x4914) (x4916) (x4918) (x4920) (x4922) (x4924) (x4926) (x4928) (x4930) (x4938) (x4934) (x4933) (n2) (more)))
       (out (win_Cwnd x4904 x4906 x4908 x4910 x4912 x4914 x4916 x4918 x4920 x4922 x4924 x4926 x4928 x4930) fun r4939 =>
        un_i r4939 fun x4940 r4941 =>
        un_nil r4941 <|
        br (x4940 != cwnd)
          (kr [.b (false)])
          (one (addI .i64 i 1) fun x4942 =>
           again (x4904) (x4906) (x4908) (x4910) (x4912) (x4914) (x4916) (x4918) (x4920) (x4922) (x4924) (x4926) (x4928) (x4930) (x4942) (cwnd) (x4932) (n2) (more))))
    (kx 2 [.i (w_cwnd), .i (w_slow), .i (w_pipe), .i (w_count), .i (w_halved_n), .b (w_halved_is), .i (w_last_n), .b (w_last_is), .b (w_runs), .i (w_due), .b (w_rtt_any), .i (w_rtt_smooth), .i (w_rtt_spread), .i (w_rtt_rto), .i (n2)])
def WinAvoid_13_L {α : Type} (kx : Nat → List Leaf → Option α) (kr : List Leaf → Option α) : Nat → Int → Int → Int → Int → Int → Bool → Int → Bool → Bool → Int → Bool → Int → Int → Int → Int → Int → Int → Int → Int → Option α
  | 0, _, _, _, _, _, _, _, _, _, _, _, _, _, _, _, _, _, _, _ => none
  | n + 1, w_cwnd, w_slow, w_pipe, w_count, w_halved_n, w_halved_is, w_last_n, w_last_is, w_runs, w_due, w_rtt_any, w_rtt_smooth, w_rtt_spread, w_rtt_rto, i, cwnd, count, n2, more => WinAvoid_13_B  kx kr (WinAvoid_13_L kx kr n) w_cwnd w_slow w_pipe w_count w_halved_n w_halved_is w_last_n w_last_is w_runs w_due w_rtt_any w_rtt_smooth w_rtt_spread w_rtt_rto i cwnd count n2 more
def WinAvoid_13_F (L13 : ({β : Type} → (Nat → List Leaf → Option β) → (List Leaf → Option β) → Nat → Int → Int → Int → Int → Int → Bool → Int → Bool → Bool → Int → Bool → Int → Int → Int → Int → Int → Int → Int → Int → Option β)) {α : Type} (n : Nat) (ls : List Leaf) (kx : Nat → List Leaf → Option α) (kr : List Leaf → Option α) : Option α := un_i ls fun w_cwnd rr => un_i rr fun w_slow rr => un_i rr fun w_pipe rr => un_i rr fun w_count rr => un_i rr fun w_halved_n rr => un_b rr fun w_halved_is rr => un_i rr fun w_last_n rr => un_b rr fun w_last_is rr => un_b rr fun w_runs rr => un_i rr fun w_due rr => un_b rr fun w_rtt_any rr => un_i rr fun w_rtt_smooth rr => un_i rr fun w_rtt_spread rr => un_i rr fun w_rtt_rto rr => un_i rr fun i rr => un_i rr fun cwnd rr => un_i rr fun count rr => un_i rr fun n2 rr => un_i rr fun more rr => un_nil rr (L13 kx kr n w_cwnd w_slow w_pipe w_count w_halved_n w_halved_is w_last_n w_last_is w_runs w_due w_rtt_any w_rtt_smooth w_rtt_spread w_rtt_rto i cwnd count n2 more)
def WinAvoid_d (L6 : ({β : Type} → (Nat → List Leaf → Option β) → (List Leaf → Option β) → Nat → Int → Int → Int → Int → Int → Bool → Int → Bool → Bool → Int → Bool → Int → Int → Int → Int → Int → Option β)) (L13 : ({β : Type} → (Nat → List Leaf → Option β) → (List Leaf → Option β) → Nat → Int → Int → Int → Int → Int → Bool → Int → Bool → Bool → Int → Bool → Int → Int → Int → Int → Int → Int → Int → Int → Option β)) (n2 : Int) (more : Int) : Option (List Leaf) :=
  one (remI .i64 n2 20) fun x4943 =>
  one (addI .i64 x4943 20) fun x4944 =>
  one (remI .i64 x4944 20) fun x4945 =>
  one (addI .i64 4 x4945) fun x4946 =>
  one (remI .i64 more 100) fun x4947 =>
  one (addI .i64 x4947 100) fun x4948 =>
  one (remI .i64 x4948 100) fun x4949 =>
  out (win_New) fun r4950 =>
  un_i r4950 fun x4951 r4952 =>
  un_i r4952 fun x4953 r4954 =>
  un_i r4954 fun x4955 r4956 =>
  un_i r4956 fun x4957 r4958 =>
  un_i r4958 fun x4959 r4960 =>
  un_b r4960 fun x4961 r4962 =>
  un_i r4962 fun x4963 r4964 =>
  un_b r4964 fun x4965 r4966 =>
  un_b r4966 fun x4967 r4968 =>
  un_i r4968 fun x4969 r4970 =>
  un_b r4970 fun x4971 r4972 =>
  un_i r4972 fun x4973 r4974 =>
  un_i r4974 fun x4975 r4976 =>
  un_i r4976 fun x4977 r4978 =>
  un_nil r4978 <|
  L6
    (fun i4979 r4980 =>
     br (Nat.beq 0 i4979)
       (un_i r4980 fun x4981 r4982 =>
        un_i r4982 fun x4983 r4984 =>
        un_i r4984 fun x4985 r4986 =>
        un_i r4986 fun x4987 r4988 =>
        un_i r4988 fun x4989 r4990 =>
        un_b r4990 fun x4991 r4992 =>
        un_i r4992 fun x4993 r4994 =>
        un_b r4994 fun x4995 r4996 =>
        un_b r4996 fun x4997 r4998 =>
        un_i r4998 fun x4999 r5000 =>
        un_b r5000 fun x5001 r5002 =>
        un_i r5002 fun x5003 r5004 =>
        un_i r5004 fun x5005 r5006 =>
        un_i r5006 fun x5007 r5008 =>
        un_i r5008 fun x5009 r5010 =>
        un_i r5010 fun x5011 r5012 =>
        un_nil r5012 <|
        out (win_Sent x4981 x4983 x4985 x4987 x4989 x4991 x4993 x4995 x4997 x4999 x5001 x5003 x5005 x5007 50 0) fun r5013 =>
        un_i r5013 fun x5014 r5015 =>
        un_i r5015 fun x5016 r5017 =>
        un_i r5017 fun x5018 r5019 =>
        un_i r5019 fun x5020 r5021 =>
        un_i r5021 fun x5022 r5023 =>
        un_b r5023 fun x5024 r5025 =>
        un_i r5025 fun x5026 r5027 =>
        un_b r5027 fun x5028 r5029 =>
        un_b r5029 fun x5030 r5031 =>
        un_i r5031 fun x5032 r5033 =>
        un_b r5033 fun x5034 r5035 =>
        un_i r5035 fun x5036 r5037 =>
        un_i r5037 fun x5038 r5039 =>
        un_i r5039 fun x5040 r5041 =>
        un_b r5041 fun x5042 r5043 =>
        un_nil r5043 <|
        chk (decide (0 = Int.ofNat 0) && (decide (0 = Int.ofNat 0) && (decide (↑1 = Int.ofNat (List.length [50])) && true)) && true) <|
        out (win_Hear [] [] [50] x5014 x5016 x5018 x5020 x5022 x5024 x5026 x5028 x5030 x5032 x5034 x5036 x5038 x5040 0 (-1) 0) fun r5044 =>
        un_i r5044 fun x5045 r5046 =>
        un_i r5046 fun x5047 r5048 =>
        un_i r5048 fun x5049 r5050 =>
        un_i r5050 fun x5051 r5052 =>
        un_i r5052 fun x5053 r5054 =>
        un_b r5054 fun x5055 r5056 =>
        un_i r5056 fun x5057 r5058 =>
        un_b r5058 fun x5059 r5060 =>
        un_b r5060 fun x5061 r5062 =>
        un_i r5062 fun x5063 r5064 =>
        un_b r5064 fun x5065 r5066 =>
        un_i r5066 fun x5067 r5068 =>
        un_i r5068 fun x5069 r5070 =>
        un_i r5070 fun x5071 r5072 =>
        un_nil r5072 <|
        one (quoI .i64 x5009 2) fun x5073 =>
        L13
          (fun i5074 r5075 =>
           br (Nat.beq 2 i5074)
             (un_i r5075 fun x5076 r5077 =>
              un_i r5077 fun x5078 r5079 =>
              un_i r5079 fun x5080 r5081 =>
              un_i r5081 fun x5082 r5083 =>
              un_i r5083 fun x5084 r5085 =>
              un_b r5085 fun x5086 r5087 =>
              un_i r5087 fun x5088 r5089 =>
              un_b r5089 fun x5090 r5091 =>
              un_b r5091 fun x5092 r5093 =>
              un_i r5093 fun x5094 r5095 =>
              un_b r5095 fun x5096 r5097 =>
              un_i r5097 fun x5098 r5099 =>
              un_i r5099 fun x5100 r5101 =>
              un_i r5101 fun x5102 r5103 =>
              un_i r5103 fun x5104 r5105 =>
              un_nil r5105 <|
              out (win_Slow x5076 x5078 x5080 x5082 x5084 x5086 x5088 x5090 x5092 x5094 x5096 x5098 x5100 x5102) fun r5106 =>
              un_i r5106 fun x5107 r5108 =>
              un_nil r5108 <|
              one (quoI .i64 x5104 2) fun x5109 =>
              some [.b (x5107 == x5109)])
             (none))
          (fun r5110 =>
           un_b r5110 fun x5111 r5112 =>
           un_nil r5112 <|
           some [.b (x5111)])
          top (x5045) (x5047) (x5049) (x5051) (x5053) (x5055) (x5057) (x5059) (x5061) (x5063) (x5065) (x5067) (x5069) (x5071) (0) (x5073) (0) (x5009) (x5011))
       (none))
    (fun r5113 =>
     un_nil r5113 <|
     none)
    top (x4951) (x4953) (x4955) (x4957) (x4959) (x4961) (x4963) (x4965) (x4967) (x4969) (x4971) (x4973) (x4975) (x4977) (x4946) (x4949)
def WinAvoid (n2 : Int) (more : Int) : Option (List Leaf) := WinAvoid_d @WinAvoid_6_L @WinAvoid_13_L n2 more
end Go.Sx.T

