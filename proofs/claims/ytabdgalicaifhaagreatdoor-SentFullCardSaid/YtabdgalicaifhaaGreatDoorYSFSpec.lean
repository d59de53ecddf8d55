import Derived.Test.YtabdgalicaifhaaGreatDoorYSentSpec
import Derived.Test.YtabdgalicaifhaaGreatDoorYFixSpec
set_option linter.all false
namespace Go.Sx.T
open Go Go.Sx
def law_has (n2 : Int) : Option (List Leaf) :=
  br (decide (n2 ≥ 200))
    (some [.i (0)])
    (some [.i (1)])
def SentFull_7_B  {α : Type} (kx : Nat → List Leaf → Option α) (kr : List Leaf → Option α) (again : List Int → List Int → List Int → Int → Bool → Int → Int → Int → Option α) (s_l0 : List Int) (s_l1 : List Int) (s_l2 : List Int) (s_last : Int) (s_any : Bool) (i : Int) (first : Int) (n2 : Int) : Option α :=
  br (decide (i < n2))
    (out (ref_Step first i) fun r916 =>
     un_i r916 fun x917 r918 =>
     un_nil r918 <|
     chk (decide (Int.ofNat (List.length s_l0) = Int.ofNat (List.length s_l0)) && true && true) <|
     out (sent_Put s_l0 s_l1 s_l2 s_last s_any x917 0) fun r919 =>
     un_li r919 fun x920 r921 =>
     un_li r921 fun x922 r923 =>
     un_li r923 fun x924 r925 =>
     un_i r925 fun x926 r927 =>
     un_b r927 fun x928 r929 =>
     un_b r929 fun x930 r931 =>
     un_nil r931 <|
     br (!x930 == decide (i < 200))
       (kr [.b (false)])
       (one (addI .i64 i 1) fun x932 =>
        chk (decide (Int.ofNat (List.length x920) = Int.ofNat (List.length x920)) && true && true) <|
        again (x920) (x922) (x924) (x926) (x928) (x932) (first) (n2)))
    (chk (decide (Int.ofNat (List.length s_l0) = Int.ofNat (List.length s_l0)) && true && true) <|
     kx 0 [.li (s_l0), .li (s_l1), .li (s_l2), .i (s_last), .b (s_any), .i (n2), .i (first)])
def SentFull_7_L {α : Type} (kx : Nat → List Leaf → Option α) (kr : List Leaf → Option α) : Nat → List Int → List Int → List Int → Int → Bool → Int → Int → Int → Option α
  | 0, _, _, _, _, _, _, _, _ => none
  | n + 1, s_l0, s_l1, s_l2, s_last, s_any, i, first, n2 => SentFull_7_B  kx kr (SentFull_7_L kx kr n) s_l0 s_l1 s_l2 s_last s_any i first n2
def SentFull_7_F (L7 : ({β : Type} → (Nat → List Leaf → Option β) → (List Leaf → Option β) → Nat → List Int → List Int → List Int → Int → Bool → Int → Int → Int → Option β)) {α : Type} (n : Nat) (ls : List Leaf) (kx : Nat → List Leaf → Option α) (kr : List Leaf → Option α) : Option α := un_li ls fun s_l0 rr => un_li rr fun s_l1 rr => un_li rr fun s_l2 rr => un_i rr fun s_last rr => un_b rr fun s_any rr => un_i rr fun i rr => un_i rr fun first rr => un_i rr fun n2 rr => un_nil rr (L7 kx kr n s_l0 s_l1 s_l2 s_last s_any i first n2)
def SentFull_d (L7 : ({β : Type} → (Nat → List Leaf → Option β) → (List Leaf → Option β) → Nat → List Int → List Int → List Int → Int → Bool → Int → Int → Int → Option β)) (first : Int) (n2 : Int) : Option (List Leaf) :=
  one (remI .i64 n2 20) fun x933 =>
  one (addI .i64 x933 20) fun x934 =>
  one (remI .i64 x934 20) fun x935 =>
  one (addI .i64 190 x935) fun x936 =>
  out (sent_New) fun r937 =>
  un_li r937 fun x938 r939 =>
  un_li r939 fun x940 r941 =>
  un_li r941 fun x942 r943 =>
  un_i r943 fun x944 r945 =>
  un_b r945 fun x946 r947 =>
  un_nil r947 <|
  chk (decide (Int.ofNat (List.length x938) = Int.ofNat (List.length x938)) && true && true) <|
  L7
    (fun i948 r949 =>
     br (Nat.beq 0 i948)
       (un_li r949 fun x950 r951 =>
        un_li r951 fun x952 r953 =>
        un_li r953 fun x954 r955 =>
        un_i r955 fun x956 r957 =>
        un_b r957 fun x958 r959 =>
        un_i r959 fun x960 r961 =>
        un_i r961 fun x962 r963 =>
        un_nil r963 <|
        chk (decide (Int.ofNat (List.length x950) = Int.ofNat (List.length x950)) && true && true) <|
        out (sent_Len x950 x952 x954 x956 x958) fun r964 =>
        un_i r964 fun x965 r966 =>
        un_nil r966 <|
        one (minI x960 200) fun x967 =>
        br (x965 != x967)
          (some [.b (false)])
          (chk (decide (Int.ofNat (List.length x950) = Int.ofNat (List.length x950)) && true && true) <|
           out (sent_Out x950 x952 x954 x956 x958) fun r968 =>
           un_i r968 fun x969 r970 =>
           un_nil r970 <|
           chk (decide (Int.ofNat (List.length x950) = Int.ofNat (List.length x950)) && true && true) <|
           out (sent_Len x950 x952 x954 x956 x958) fun r971 =>
           un_i r971 fun x972 r973 =>
           un_nil r973 <|
           br (x969 != x972)
             (some [.b (false)])
             (chk (decide (Int.ofNat (List.length x950) = Int.ofNat (List.length x950)) && true && true) <|
              out (sent_Last x950 x952 x954 x956 x958) fun r974 =>
              un_i r974 fun x975 r976 =>
              un_b r976 fun x977 r978 =>
              un_nil r978 <|
              chk (decide (Int.ofNat (List.length x950) = Int.ofNat (List.length x950)) && true && true) <|
              chk (decide ((↑(1 : Nat) : Int) = Int.ofNat (List.length [(0 : Int)])) && true) <|
              out (sent_Hear x950 x952 x954 [(0 : Int)] [(1 : Int)] x956 x958 x962 (9 : Int)) fun r979 =>
              un_li r979 fun x980 r981 =>
              un_li r981 fun x982 r983 =>
              un_li r983 fun x984 r985 =>
              un_li r985 fun x986 r987 =>
              un_li r987 fun x988 r989 =>
              un_li r989 fun x990 r991 =>
              un_i r991 fun x992 r993 =>
              un_b r993 fun x994 r995 =>
              un_i r995 fun x996 r997 =>
              un_i r997 fun x998 r999 =>
              un_nil r999 <|
              out (ref_Step x975 1) fun r1000 =>
              un_i r1000 fun x1001 r1002 =>
              un_nil r1002 <|
              chk (decide (Int.ofNat (List.length x980) = Int.ofNat (List.length x980)) && true && true) <|
              out (sent_Put x980 x982 x984 x992 x994 x1001 5) fun r1003 =>
              un_li r1003 fun x1004 r1005 =>
              un_li r1005 fun x1006 r1007 =>
              un_li r1007 fun x1008 r1009 =>
              un_i r1009 fun x1010 r1011 =>
              un_b r1011 fun x1012 r1013 =>
              un_b r1013 fun x1014 r1015 =>
              un_nil r1015 <|
              one (Int.ofNat (List.length x986)) fun x1016 =>
              br (x1016 == 1)
                (br (x998 == 9)
                   (br (x1014)
                      (chk (decide (Int.ofNat (List.length x1004) = Int.ofNat (List.length x1004)) && true && true) <|
                       out (sent_Len x1004 x1006 x1008 x1010 x1012) fun r1017 =>
                       un_i r1017 fun x1018 r1019 =>
                       un_nil r1019 <|
                       one (addI .i64 x960 1) fun x1020 =>
                       one (minI x1020 200) fun x1021 =>
                       br (x1018 == x1021)
                         (chk (decide (Int.ofNat (List.length x1004) = Int.ofNat (List.length x1004)) && true && true) <|
                          out (sent_Out x1004 x1006 x1008 x1010 x1012) fun r1022 =>
                          un_i r1022 fun x1023 r1024 =>
                          un_nil r1024 <|
                          chk (decide (Int.ofNat (List.length x1004) = Int.ofNat (List.length x1004)) && true && true) <|
                          out (sent_Len x1004 x1006 x1008 x1010 x1012) fun r1025 =>
                          un_i r1025 fun x1026 r1027 =>
                          un_nil r1027 <|
                          out (law_has x960) fun r1028 =>
                          un_i r1028 fun x1029 r1030 =>
                          un_nil r1030 <|
                          one (subI .i64 x1026 x1029) fun x1031 =>
                          some [.b (x1023 == x1031)])
                         (some [.b (false)]))
                      (some [.b (false)]))
                   (some [.b (false)]))
                (some [.b (false)]))))
       (none))
    (fun r1032 =>
     un_b r1032 fun x1033 r1034 =>
     un_nil r1034 <|
     some [.b (x1033)])
    top (x938) (x940) (x942) (x944) (x946) (0) (first) (x936)
def SentFull (first : Int) (n2 : Int) : Option (List Leaf) := SentFull_d @SentFull_7_L first n2
end Go.Sx.T

