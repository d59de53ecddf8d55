import Derived.Test.YtopcljhdejindaaGreatDoorYIvalSpec
set_option linter.all false
namespace Go.Sx.T
open Go Go.Sx
def ref_Weigh_5_B  {α : Type} (kx : Nat → List Leaf → Option α) (kr : List Leaf → Option α) (again : List Int → Int → Int → Int → Int → Int → Int → Int → Int → Int → Int → Int → Int → Int → Option α) (closed : List Int) (w_0 : Int) (w_1 : Int) (w_2 : Int) (w_3 : Int) (w_4 : Int) (w_5 : Int) (w_6 : Int) (w_7 : Int) (i : Int) (a : Int) (k : Int) (b : Int) (sum : Int) : Option α :=
  br (decide (i < k))
    (chk (decide (0 ≤ i ∧ i < ↑8)) <|
     chk (decide (0 ≤ i ∧ i < ↑(List.length [w_0, w_1, w_2, w_3, w_4, w_5, w_6, w_7]))) <|
     one (addI .u64 sum (List.getD [w_0, w_1, w_2, w_3, w_4, w_5, w_6, w_7] (Int.toNat i) 0)) fun x895 =>
     chk (decide (0 ≤ i ∧ i < Int.ofNat (List.length closed))) <|
     chk (decide (0 ≤ i ∧ i < Int.ofNat (List.length closed))) <|
     chk (decide (0 ≤ i ∧ i < ↑8)) <|
     chk (decide (0 ≤ i ∧ i < ↑(List.length [w_0, w_1, w_2, w_3, w_4, w_5, w_6, w_7]))) <|
     out (ref_Mul (List.getD closed (Int.toNat i) 0) (List.getD [w_0, w_1, w_2, w_3, w_4, w_5, w_6, w_7] (Int.toNat i) 0)) fun r896 =>
     un_i r896 fun x897 r898 =>
     un_nil r898 <|
     out (ref_Add b x897) fun r899 =>
     un_i r899 fun x900 r901 =>
     un_nil r901 <|
     one (subI .i64 k 1) fun x902 =>
     br (decide (i < x902))
       (chk (decide (0 ≤ i ∧ i < Int.ofNat (List.length closed))) <|
        chk (decide (0 ≤ i ∧ i < Int.ofNat (List.length closed))) <|
        one (addI .i64 i 1) fun x903 =>
        chk (decide (0 ≤ x903 ∧ x903 < ↑8)) <|
        chk (decide (0 ≤ x903 ∧ x903 < ↑(List.length [w_0, w_1, w_2, w_3, w_4, w_5, w_6, w_7]))) <|
        out (ref_Mul (List.getD closed (Int.toNat i) 0) (List.getD [w_0, w_1, w_2, w_3, w_4, w_5, w_6, w_7] (Int.toNat x903) 0)) fun r904 =>
        un_i r904 fun x905 r906 =>
        un_nil r906 <|
        out (ref_Add a x905) fun r907 =>
        un_i r907 fun x908 r909 =>
        un_nil r909 <|
        one (addI .i64 i 1) fun x910 =>
        chk (decide (Int.ofNat (List.length closed) = Int.ofNat (List.length closed)) && true) <|
        again (closed) (w_0) (w_1) (w_2) (w_3) (w_4) (w_5) (w_6) (w_7) (x910) (x908) (k) (x900) (x895))
       (one (addI .i64 i 1) fun x911 =>
        chk (decide (Int.ofNat (List.length closed) = Int.ofNat (List.length closed)) && true) <|
        again (closed) (w_0) (w_1) (w_2) (w_3) (w_4) (w_5) (w_6) (w_7) (x911) (a) (k) (x900) (x895)))
    (kx 0 [.li (closed), .i (b), .i (a), .i (sum)])
def ref_Weigh_5_L {α : Type} (kx : Nat → List Leaf → Option α) (kr : List Leaf → Option α) : Nat → List Int → Int → Int → Int → Int → Int → Int → Int → Int → Int → Int → Int → Int → Int → Option α
  | 0, _, _, _, _, _, _, _, _, _, _, _, _, _, _ => none
  | n + 1, closed, w_0, w_1, w_2, w_3, w_4, w_5, w_6, w_7, i, a, k, b, sum => ref_Weigh_5_B  kx kr (ref_Weigh_5_L kx kr n) closed w_0 w_1 w_2 w_3 w_4 w_5 w_6 w_7 i a k b sum
def ref_Weigh_5_F (L5 : ({β : Type} → (Nat → List Leaf → Option β) → (List Leaf → Option β) → Nat → List Int → Int → Int → Int → Int → Int → Int → Int → Int → Int → Int → Int → Int → Int → Option β)) {α : Type} (n : Nat) (ls : List Leaf) (kx : Nat → List Leaf → Option α) (kr : List Leaf → Option α) : Option α := un_li ls fun closed rr => un_i rr fun w_0 rr => un_i rr fun w_1 rr => un_i rr fun w_2 rr => un_i rr fun w_3 rr => un_i rr fun w_4 rr => un_i rr fun w_5 rr => un_i rr fun w_6 rr => un_i rr fun w_7 rr => un_i rr fun i rr => un_i rr fun a rr => un_i rr fun k rr => un_i rr fun b rr => un_i rr fun sum rr => un_nil rr (L5 kx kr n closed w_0 w_1 w_2 w_3 w_4 w_5 w_6 w_7 i a k b sum)
def ref_Weigh_d (L5 : ({β : Type} → (Nat → List Leaf → Option β) → (List Leaf → Option β) → Nat → List Int → Int → Int → Int → Int → Int → Int → Int → Int → Int → Int → Int → Int → Int → Option β)) (closed : List Int) (open2 : Int) : Option (List Leaf) :=
  one (Int.ofNat (List.length closed)) fun x912 =>
  one (minI x912 8) fun x913 =>
  out (ref_Mul open2 (List.getD [5, 5, 5, 5, 4, 3, 2, 1] (Int.toNat 0) 0)) fun r914 =>
  un_i r914 fun x915 r916 =>
  un_nil r916 <|
  chk (decide (Int.ofNat (List.length closed) = Int.ofNat (List.length closed)) && true) <|
  L5
    (fun i917 r918 =>
     br (Nat.beq 0 i917)
       (un_li r918 fun x919 r920 =>
        un_i r920 fun x921 r922 =>
        un_i r922 fun x923 r924 =>
        un_i r924 fun x925 r926 =>
        un_nil r926 <|
        one (maxI x923 x921) fun x927 =>
        some [.i (x925), .i (x927)])
       (none))
    (fun r928 =>
     un_nil r928 <|
     none)
    top (closed) (5) (5) (5) (5) (4) (3) (2) (1) (0) (x915) (x913) (0) (0)
def ref_Weigh (closed : List Int) (open2 : Int) : Option (List Leaf) := ref_Weigh_d @ref_Weigh_5_L closed open2
def ref_Mean (closed : List Int) (open2 : Int) : Option (List Leaf) :=
  chk (decide (Int.ofNat (List.length closed) = Int.ofNat (List.length closed)) && true) <|
  out (ref_Weigh closed open2) fun r929 =>
  un_i r929 fun x930 r931 =>
  un_i r931 fun x932 r933 =>
  un_nil r933 <|
  br (x930 == 0)
    (some [.i (0)])
    (chk (decide (x930 ≠ 0)) <|
     one (quoI .u64 x932 x930) fun x934 =>
     some [.i (x934)])
def ref_LossRate (closed : List Int) (open2 : Int) : Option (List Leaf) :=
  chk (decide (Int.ofNat (List.length closed) = Int.ofNat (List.length closed)) && true) <|
  out (ref_Weigh closed open2) fun r935 =>
  un_i r935 fun x936 r937 =>
  un_i r937 fun x938 r939 =>
  un_nil r939 <|
  br (x936 == 0)
    (some [.i (0)])
    (out (ref_MulDiv x936 4294967296 x938) fun r940 =>
     un_i r940 fun x941 r942 =>
     un_nil r942 <|
     one (minI x941 4294967296) fun x943 =>
     some [.i (x943)])
def IvalAll (closed : List Int) (open2 : Int) (i : Int) : Option (List Leaf) :=
  one (Int.ofNat (List.length closed)) fun x944 =>
  one (minI x944 12) fun x945 =>
  chk (condSl (rlOf [[Col.int .u64 closed]] 0) Option.none (Option.some x945)) <|
  br (decide (i ≥ 0))
    (br (decide (i < 8))
       (chk (decide (0 ≤ i ∧ i < ↑8)) <|
        chk (decide (0 ≤ i ∧ i < ↑8)) <|
        chk (decide (Int.ofNat 0 + x945 ≤ Int.ofNat (List.length closed))) <|
        chk (decide (x945 = Int.ofNat (List.length (List.take (Int.toNat x945) (List.drop (Int.toNat (Int.ofNat 0)) closed)))) && true) <|
        out (ival_Rate (List.take (Int.toNat x945) (List.drop (Int.toNat (Int.ofNat 0)) closed)) open2) fun r946 =>
        un_i r946 fun x947 r948 =>
        un_nil r948 <|
        out (ival_Weight i) fun r949 =>
        un_i r949 fun x950 r951 =>
        un_nil r951 <|
        br (x950 == List.getD [5, 5, 5, 5, 4, 3, 2, 1] (Int.toNat i) 0)
          (chk (decide (Int.ofNat 0 + x945 ≤ Int.ofNat (List.length closed))) <|
           chk (decide (x945 = Int.ofNat (List.length (List.take (Int.toNat x945) (List.drop (Int.toNat (Int.ofNat 0)) closed)))) && true) <|
           out (ival_Mean (List.take (Int.toNat x945) (List.drop (Int.toNat (Int.ofNat 0)) closed)) open2) fun r952 =>
           un_i r952 fun x953 r954 =>
           un_nil r954 <|
           chk (decide (Int.ofNat 0 + x945 ≤ Int.ofNat (List.length closed))) <|
           chk (decide (x945 = Int.ofNat (List.length (List.take (Int.toNat x945) (List.drop (Int.toNat (Int.ofNat 0)) closed)))) && true) <|
           out (ref_Mean (List.take (Int.toNat x945) (List.drop (Int.toNat (Int.ofNat 0)) closed)) open2) fun r955 =>
           un_i r955 fun x956 r957 =>
           un_nil r957 <|
           br (x953 == x956)
             (chk (decide (Int.ofNat 0 + x945 ≤ Int.ofNat (List.length closed))) <|
              chk (decide (x945 = Int.ofNat (List.length (List.take (Int.toNat x945) (List.drop (Int.toNat (Int.ofNat 0)) closed)))) && true) <|
              out (ref_LossRate (List.take (Int.toNat x945) (List.drop (Int.toNat (Int.ofNat 0)) closed)) open2) fun r958 =>
              un_i r958 fun x959 r960 =>
              un_nil r960 <|
              br (x947 == x959)
                (br (decide (x947 ≤ 4294967296))
                   (br (decide (x945 > 0))
                      (some [.b (true)])
                      (some [.b (x947 == 0)]))
                   (some [.b (false)]))
                (some [.b (false)]))
             (some [.b (false)]))
          (some [.b (false)]))
       (chk (decide (Int.ofNat 0 + x945 ≤ Int.ofNat (List.length closed))) <|
        chk (decide (x945 = Int.ofNat (List.length (List.take (Int.toNat x945) (List.drop (Int.toNat (Int.ofNat 0)) closed)))) && true) <|
        out (ival_Rate (List.take (Int.toNat x945) (List.drop (Int.toNat (Int.ofNat 0)) closed)) open2) fun r961 =>
        un_i r961 fun x962 r963 =>
        un_nil r963 <|
        out (ival_Weight i) fun r964 =>
        un_i r964 fun x965 r966 =>
        un_nil r966 <|
        br (x965 == 0)
          (chk (decide (Int.ofNat 0 + x945 ≤ Int.ofNat (List.length closed))) <|
           chk (decide (x945 = Int.ofNat (List.length (List.take (Int.toNat x945) (List.drop (Int.toNat (Int.ofNat 0)) closed)))) && true) <|
           out (ival_Mean (List.take (Int.toNat x945) (List.drop (Int.toNat (Int.ofNat 0)) closed)) open2) fun r967 =>
           un_i r967 fun x968 r969 =>
           un_nil r969 <|
           chk (decide (Int.ofNat 0 + x945 ≤ Int.ofNat (List.length closed))) <|
           chk (decide (x945 = Int.ofNat (List.length (List.take (Int.toNat x945) (List.drop (Int.toNat (Int.ofNat 0)) closed)))) && true) <|
           out (ref_Mean (List.take (Int.toNat x945) (List.drop (Int.toNat (Int.ofNat 0)) closed)) open2) fun r970 =>
           un_i r970 fun x971 r972 =>
           un_nil r972 <|
           br (x968 == x971)
             (chk (decide (Int.ofNat 0 + x945 ≤ Int.ofNat (List.length closed))) <|
              chk (decide (x945 = Int.ofNat (List.length (List.take (Int.toNat x945) (List.drop (Int.toNat (Int.ofNat 0)) closed)))) && true) <|
              out (ref_LossRate (List.take (Int.toNat x945) (List.drop (Int.toNat (Int.ofNat 0)) closed)) open2) fun r973 =>
              un_i r973 fun x974 r975 =>
              un_nil r975 <|
              br (x962 == x974)
                (br (decide (x962 ≤ 4294967296))
                   (br (decide (x945 > 0))
                      (some [.b (true)])
                      (some [.b (x962 == 0)]))
                   (some [.b (false)]))
                (some [.b (false)]))
             (some [.b (false)]))
          (some [.b (false)])))
    (chk (decide (Int.ofNat 0 + x945 ≤ Int.ofNat (List.length closed))) <|
     chk (decide (x945 = Int.ofNat (List.length (List.take (Int.toNat x945) (List.drop (Int.toNat (Int.ofNat 0)) closed)))) && true) <|
     out (ival_Rate (List.take (Int.toNat x945) (List.drop (Int.toNat (Int.ofNat 0)) closed)) open2) fun r976 =>
     un_i r976 fun x977 r978 =>
     un_nil r978 <|
     out (ival_Weight i) fun r979 =>
     un_i r979 fun x980 r981 =>
     un_nil r981 <|
     br (x980 == 0)
       (chk (decide (Int.ofNat 0 + x945 ≤ Int.ofNat (List.length closed))) <|
        chk (decide (x945 = Int.ofNat (List.length (List.take (Int.toNat x945) (List.drop (Int.toNat (Int.ofNat 0)) closed)))) && true) <|
        out (ival_Mean (List.take (Int.toNat x945) (List.drop (Int.toNat (Int.ofNat 0)) closed)) open2) fun r982 =>
        un_i r982 fun x983 r984 =>
        un_nil r984 <|
        chk (decide (Int.ofNat 0 + x945 ≤ Int.ofNat (List.length closed))) <|
        chk (decide (x945 = Int.ofNat (List.length (List.take (Int.toNat x945) (List.drop (Int.toNat (Int.ofNat 0)) closed)))) && true) <|
        out (ref_Mean (List.take (Int.toNat x945) (List.drop (Int.toNat (Int.ofNat 0)) closed)) open2) fun r985 =>
        un_i r985 fun x986 r987 =>
        un_nil r987 <|
        br (x983 == x986)
          (chk (decide (Int.ofNat 0 + x945 ≤ Int.ofNat (List.length closed))) <|
           chk (decide (x945 = Int.ofNat (List.length (List.take (Int.toNat x945) (List.drop (Int.toNat (Int.ofNat 0)) closed)))) && true) <|
           out (ref_LossRate (List.take (Int.toNat x945) (List.drop (Int.toNat (Int.ofNat 0)) closed)) open2) fun r988 =>
           un_i r988 fun x989 r990 =>
           un_nil r990 <|
           br (x977 == x989)
             (br (decide (x977 ≤ 4294967296))
                (br (decide (x945 > 0))
                   (some [.b (true)])
                   (some [.b (x977 == 0)]))
                (some [.b (false)]))
             (some [.b (false)]))
          (some [.b (false)]))
       (some [.b (false)]))
end Go.Sx.T

