import Derived.Test.YtbjpcbghchfifaaGreatDoorYRttSpec
set_option linter.all false
namespace Go.Sx.T
open Go Go.Sx
def RttBack_6_B  {α : Type} (kx : Nat → List Leaf → Option α) (kr : List Leaf → Option α) (again : List Int → Bool → Int → Int → Int → Int → Int → Option α) (ds : List Int) (r_any : Bool) (r_smooth : Int) (r_spread : Int) (r_rto : Int) (i : Int) (n2 : Int) : Option α :=
  one (Int.ofNat (List.length ds)) fun x905 =>
  br (decide (i < x905))
    (br (decide (i < 10))
       (chk (decide (0 ≤ i ∧ i < Int.ofNat (List.length ds))) <|
        chk (decide (0 ≤ i ∧ i < Int.ofNat (List.length ds))) <|
        out (rtt_Sample r_any r_smooth r_spread r_rto (List.getD ds (Int.toNat i) 0)) fun r906 =>
        un_b r906 fun x907 r908 =>
        un_i r908 fun x909 r910 =>
        un_i r910 fun x911 r912 =>
        un_i r912 fun x913 r914 =>
        un_nil r914 <|
        one (addI .i64 i 1) fun x915 =>
        chk (decide (Int.ofNat (List.length ds) = Int.ofNat (List.length ds)) && true) <|
        again (ds) (x907) (x909) (x911) (x913) (x915) (n2))
       (chk (decide (Int.ofNat (List.length ds) = Int.ofNat (List.length ds)) && true) <|
        kx 0 [.li (ds), .b (r_any), .i (r_smooth), .i (r_spread), .i (r_rto), .i (n2)]))
    (chk (decide (Int.ofNat (List.length ds) = Int.ofNat (List.length ds)) && true) <|
     kx 0 [.li (ds), .b (r_any), .i (r_smooth), .i (r_spread), .i (r_rto), .i (n2)])
def RttBack_6_L {α : Type} (kx : Nat → List Leaf → Option α) (kr : List Leaf → Option α) : Nat → List Int → Bool → Int → Int → Int → Int → Int → Option α
  | 0, _, _, _, _, _, _, _ => none
  | n + 1, ds, r_any, r_smooth, r_spread, r_rto, i, n2 => RttBack_6_B  kx kr (RttBack_6_L kx kr n) ds r_any r_smooth r_spread r_rto i n2
def RttBack_6_F (L6 : ({β : Type} → (Nat → List Leaf → Option β) → (List Leaf → Option β) → Nat → List Int → Bool → Int → Int → Int → Int → Int → Option β)) {α : Type} (n : Nat) (ls : List Leaf) (kx : Nat → List Leaf → Option α) (kr : List Leaf → Option α) : Option α := un_li ls fun ds rr => un_b rr fun r_any rr => un_i rr fun r_smooth rr => un_i rr fun r_spread rr => un_i rr fun r_rto rr => un_i rr fun i rr => un_i rr fun n2 rr => un_nil rr (L6 kx kr n ds r_any r_smooth r_spread r_rto i n2)
def RttBack_12_B  {α : Type} (kx : Nat → List Leaf → Option α) (kr : List Leaf → Option α) (again : List Int → Bool → Int → Int → Int → Int → Int → Int → Int → Option α) (ds : List Int) (r_any : Bool) (r_smooth : Int) (r_spread : Int) (r_rto : Int) (i : Int) (want : Int) (was : Int) (n2 : Int) : Option α :=
  one (remI .i64 n2 12) fun x961 =>
  one (addI .i64 x961 12) fun x962 =>
  one (remI .i64 x962 12) fun x963 =>
  br (decide (i < x963))
    (out (rtt_Back r_any r_smooth r_spread r_rto) fun r964 =>
     un_b r964 fun x965 r966 =>
     un_i r966 fun x967 r968 =>
     un_i r968 fun x969 r970 =>
     un_i r970 fun x971 r972 =>
     un_nil r972 <|
     one (mulI .i64 2 want) fun x973 =>
     one (minI x973 64000000) fun x974 =>
     out (rtt_Rto x965 x967 x969 x971) fun r975 =>
     un_i r975 fun x976 r977 =>
     un_nil r977 <|
     br (x976 != x974)
       (kr [.li (ds), .b (false)])
       (one (addI .i64 i 1) fun x978 =>
        chk (decide (Int.ofNat (List.length ds) = Int.ofNat (List.length ds)) && true) <|
        again (ds) (x965) (x967) (x969) (x971) (x978) (x974) (was) (n2)))
    (chk (decide (Int.ofNat (List.length ds) = Int.ofNat (List.length ds)) && true) <|
     kx 2 [.li (ds), .b (r_any), .i (r_smooth), .i (r_spread), .i (r_rto), .i (was)])
def RttBack_12_L {α : Type} (kx : Nat → List Leaf → Option α) (kr : List Leaf → Option α) : Nat → List Int → Bool → Int → Int → Int → Int → Int → Int → Int → Option α
  | 0, _, _, _, _, _, _, _, _, _ => none
  | n + 1, ds, r_any, r_smooth, r_spread, r_rto, i, want, was, n2 => RttBack_12_B  kx kr (RttBack_12_L kx kr n) ds r_any r_smooth r_spread r_rto i want was n2
def RttBack_12_F (L12 : ({β : Type} → (Nat → List Leaf → Option β) → (List Leaf → Option β) → Nat → List Int → Bool → Int → Int → Int → Int → Int → Int → Int → Option β)) {α : Type} (n : Nat) (ls : List Leaf) (kx : Nat → List Leaf → Option α) (kr : List Leaf → Option α) : Option α := un_li ls fun ds rr => un_b rr fun r_any rr => un_i rr fun r_smooth rr => un_i rr fun r_spread rr => un_i rr fun r_rto rr => un_i rr fun i rr => un_i rr fun want rr => un_i rr fun was rr => un_i rr fun n2 rr => un_nil rr (L12 kx kr n ds r_any r_smooth r_spread r_rto i want was n2)
def RttBack_d (L6 : ({β : Type} → (Nat → List Leaf → Option β) → (List Leaf → Option β) → Nat → List Int → Bool → Int → Int → Int → Int → Int → Option β)) (L12 : ({β : Type} → (Nat → List Leaf → Option β) → (List Leaf → Option β) → Nat → List Int → Bool → Int → Int → Int → Int → Int → Int → Int → Option β)) (ds : List Int) (n2 : Int) : Option (List Leaf) :=
  out (rtt_New) fun r979 =>
  un_b r979 fun x980 r981 =>
  un_i r981 fun x982 r983 =>
  un_i r983 fun x984 r985 =>
  un_i r985 fun x986 r987 =>
  un_nil r987 <|
  chk (decide (Int.ofNat (List.length ds) = Int.ofNat (List.length ds)) && true) <|
  L6
    (fun i988 r989 =>
     br (Nat.beq 0 i988)
       (un_li r989 fun x990 r991 =>
        un_b r991 fun x992 r993 =>
        un_i r993 fun x994 r995 =>
        un_i r995 fun x996 r997 =>
        un_i r997 fun x998 r999 =>
        un_i r999 fun x1000 r1001 =>
        un_nil r1001 <|
        out (rtt_Rto x992 x994 x996 x998) fun r1002 =>
        un_i r1002 fun x1003 r1004 =>
        un_nil r1004 <|
        chk (decide (Int.ofNat (List.length x990) = Int.ofNat (List.length x990)) && true) <|
        L12
          (fun i1005 r1006 =>
           br (Nat.beq 2 i1005)
             (un_li r1006 fun x1007 r1008 =>
              un_b r1008 fun x1009 r1010 =>
              un_i r1010 fun x1011 r1012 =>
              un_i r1012 fun x1013 r1014 =>
              un_i r1014 fun x1015 r1016 =>
              un_i r1016 fun x1017 r1018 =>
              un_nil r1018 <|
              one (Int.ofNat (List.length x1007)) fun x1019 =>
              br (x1019 == 0)
                (some [.b (true)])
                (out (rtt_Smooth x1009 x1011 x1013 x1015) fun r1020 =>
                 un_i r1020 fun x1021 r1022 =>
                 un_b r1022 fun x1023 r1024 =>
                 un_nil r1024 <|
                 out (rtt_Sample x1009 x1011 x1013 x1015 x1021) fun r1025 =>
                 un_b r1025 fun x1026 r1027 =>
                 un_i r1027 fun x1028 r1029 =>
                 un_i r1029 fun x1030 r1031 =>
                 un_i r1031 fun x1032 r1033 =>
                 un_nil r1033 <|
                 out (rtt_Rto x1026 x1028 x1030 x1032) fun r1034 =>
                 un_i r1034 fun x1035 r1036 =>
                 un_nil r1036 <|
                 br (decide (x1035 ≤ x1017))
                   (out (rtt_Rto x1026 x1028 x1030 x1032) fun r1037 =>
                    un_i r1037 fun x1038 r1039 =>
                    un_nil r1039 <|
                    some [.b (decide (x1038 ≥ 200000))])
                   (some [.b (false)])))
             (none))
          (fun r1040 =>
           un_li r1040 fun x1041 r1042 =>
           un_b r1042 fun x1043 r1044 =>
           un_nil r1044 <|
           some [.b (x1043)])
          top (x990) (x992) (x994) (x996) (x998) (0) (x1003) (x1003) (x1000))
       (none))
    (fun r1045 =>
     un_nil r1045 <|
     none)
    top (ds) (x980) (x982) (x984) (x986) (0) (n2)
def RttBack (ds : List Int) (n2 : Int) : Option (List Leaf) := RttBack_d @RttBack_6_L @RttBack_12_L ds n2
end Go.Sx.T

