import Derived.Test.YtopcljhdejindaaGreatDoorYLowSpec
set_option linter.all false
namespace Go.Sx.T
open Go Go.Sx
def rset_New  : Option (List Leaf) :=
  chk (decide (↑1 = Int.ofNat (List.length [0])) && true && true) <|
  some [.li ([0]), .li ([18446744073709551615])]
def rset_Len (s_l0 : List Int) (s_l1 : List Int) : Option (List Leaf) :=
  one (Int.ofNat (List.length s_l0)) fun x991 =>
  some [.i (x991)]
def rset_Max_3_B  {α : Type} (kx : Nat → List Leaf → Option α) (kr : List Leaf → Option α) (again : List Int → List Int → Int → Int → Int → Option α) (s_l0 : List Int) (s_l1 : List Int) (t7 : Int) (most : Int) (t6 : Int) : Option α :=
  br (decide (t7 < t6))
    (chk (decide (0 ≤ t7 ∧ t7 < Int.ofNat (List.length s_l0))) <|
     chk (decide (0 ≤ t7 ∧ t7 < Int.ofNat (List.length s_l0))) <|
     one (maxI most (List.getD s_l1 (Int.toNat t7) 0)) fun x997 =>
     one (addI .i64 t7 1) fun x998 =>
     chk (decide (Int.ofNat (List.length s_l0) = Int.ofNat (List.length s_l0)) && true && true) <|
     again (s_l0) (s_l1) (x998) (x997) (t6))
    (chk (decide (Int.ofNat (List.length s_l0) = Int.ofNat (List.length s_l0)) && true && true) <|
     kx 0 [.li (s_l0), .li (s_l1), .i (most)])
def rset_Max_3_L {α : Type} (kx : Nat → List Leaf → Option α) (kr : List Leaf → Option α) : Nat → List Int → List Int → Int → Int → Int → Option α
  | 0, _, _, _, _, _ => none
  | n + 1, s_l0, s_l1, t7, most, t6 => rset_Max_3_B  kx kr (rset_Max_3_L kx kr n) s_l0 s_l1 t7 most t6
def rset_Max_3_F (L3 : ({β : Type} → (Nat → List Leaf → Option β) → (List Leaf → Option β) → Nat → List Int → List Int → Int → Int → Int → Option β)) {α : Type} (n : Nat) (ls : List Leaf) (kx : Nat → List Leaf → Option α) (kr : List Leaf → Option α) : Option α := un_li ls fun s_l0 rr => un_li rr fun s_l1 rr => un_i rr fun t7 rr => un_i rr fun most rr => un_i rr fun t6 rr => un_nil rr (L3 kx kr n s_l0 s_l1 t7 most t6)
def rset_Max_d (L3 : ({β : Type} → (Nat → List Leaf → Option β) → (List Leaf → Option β) → Nat → List Int → List Int → Int → Int → Int → Option β)) (s_l0 : List Int) (s_l1 : List Int) : Option (List Leaf) :=
  chk (decide (Int.ofNat (List.length s_l0) = Int.ofNat (List.length s_l0)) && true && true) <|
  out (rset_Len s_l0 s_l1) fun r999 =>
  un_i r999 fun x1000 r1001 =>
  un_nil r1001 <|
  chk (decide (Int.ofNat (List.length s_l0) = Int.ofNat (List.length s_l0)) && true && true) <|
  L3
    (fun i1002 r1003 =>
     br (Nat.beq 0 i1002)
       (un_li r1003 fun x1004 r1005 =>
        un_li r1005 fun x1006 r1007 =>
        un_i r1007 fun x1008 r1009 =>
        un_nil r1009 <|
        some [.i (x1008)])
       (none))
    (fun r1010 =>
     un_nil r1010 <|
     none)
    top (s_l0) (s_l1) (0) (0) (x1000)
def rset_Max (s_l0 : List Int) (s_l1 : List Int) : Option (List Leaf) := rset_Max_d @rset_Max_3_L s_l0 s_l1
def rset_Only (s_l0 : List Int) (s_l1 : List Int) (x : Int) (now : Int) : Option (List Leaf) :=
  one (maxI now 0) fun x1011 =>
  one (minI x1011 4611686018427387904) fun x1012 =>
  chk (decide (↑1 = Int.ofNat (List.length [x1012])) && true && true) <|
  some [.li ([x1012]), .li ([x])]
def rset_Maximize_1_B  {α : Type} (kx : Nat → List Leaf → Option α) (kr : List Leaf → Option α) (again : List Int → List Int → Int → Int → Int → Int → Option α) (s_l0 : List Int) (s_l1 : List Int) (t9 : Int) (x : Int) (now : Int) (t8 : Int) : Option α :=
  br (decide (t9 < t8))
    (chk (decide (0 ≤ t9 ∧ t9 < Int.ofNat (List.length s_l0))) <|
     chk (decide (0 ≤ t9 ∧ t9 < Int.ofNat (List.length s_l0))) <|
     br (List.getD s_l1 (Int.toNat t9) 0 != 18446744073709551615)
       (chk (decide (0 ≤ t9 ∧ t9 < Int.ofNat (List.length s_l0))) <|
        chk (decide (0 ≤ t9 ∧ t9 < Int.ofNat (List.length s_l0))) <|
        one (maxI x (List.getD s_l1 (Int.toNat t9) 0)) fun x1019 =>
        one (addI .i64 t9 1) fun x1020 =>
        chk (decide (Int.ofNat (List.length s_l0) = Int.ofNat (List.length s_l0)) && true && true) <|
        again (s_l0) (s_l1) (x1020) (x1019) (now) (t8))
       (one (addI .i64 t9 1) fun x1021 =>
        chk (decide (Int.ofNat (List.length s_l0) = Int.ofNat (List.length s_l0)) && true && true) <|
        again (s_l0) (s_l1) (x1021) (x) (now) (t8)))
    (chk (decide (Int.ofNat (List.length s_l0) = Int.ofNat (List.length s_l0)) && true && true) <|
     kx 0 [.li (s_l0), .li (s_l1), .i (now), .i (x)])
def rset_Maximize_1_L {α : Type} (kx : Nat → List Leaf → Option α) (kr : List Leaf → Option α) : Nat → List Int → List Int → Int → Int → Int → Int → Option α
  | 0, _, _, _, _, _, _ => none
  | n + 1, s_l0, s_l1, t9, x, now, t8 => rset_Maximize_1_B  kx kr (rset_Maximize_1_L kx kr n) s_l0 s_l1 t9 x now t8
def rset_Maximize_1_F (L1 : ({β : Type} → (Nat → List Leaf → Option β) → (List Leaf → Option β) → Nat → List Int → List Int → Int → Int → Int → Int → Option β)) {α : Type} (n : Nat) (ls : List Leaf) (kx : Nat → List Leaf → Option α) (kr : List Leaf → Option α) : Option α := un_li ls fun s_l0 rr => un_li rr fun s_l1 rr => un_i rr fun t9 rr => un_i rr fun x rr => un_i rr fun now rr => un_i rr fun t8 rr => un_nil rr (L1 kx kr n s_l0 s_l1 t9 x now t8)
def rset_Maximize_d (L1 : ({β : Type} → (Nat → List Leaf → Option β) → (List Leaf → Option β) → Nat → List Int → List Int → Int → Int → Int → Int → Option β)) (s_l0 : List Int) (s_l1 : List Int) (x : Int) (now : Int) : Option (List Leaf) :=
  chk (decide (Int.ofNat (List.length s_l0) = Int.ofNat (List.length s_l0)) && true && true) <|
  out (rset_Len s_l0 s_l1) fun r1022 =>
  un_i r1022 fun x1023 r1024 =>
  un_nil r1024 <|
  chk (decide (Int.ofNat (List.length s_l0) = Int.ofNat (List.length s_l0)) && true && true) <|
  L1
    (fun i1025 r1026 =>
     br (Nat.beq 0 i1025)
       (un_li r1026 fun x1027 r1028 =>
        un_li r1028 fun x1029 r1030 =>
        un_i r1030 fun x1031 r1032 =>
        un_i r1032 fun x1033 r1034 =>
        un_nil r1034 <|
        chk (decide (Int.ofNat (List.length x1027) = Int.ofNat (List.length x1027)) && true && true) <|
        out (rset_Only x1027 x1029 x1033 x1031) fun r1035 =>
        un_li r1035 fun x1036 r1037 =>
        un_li r1037 fun x1038 r1039 =>
        un_nil r1039 <|
        chk (decide (Int.ofNat (List.length x1036) = Int.ofNat (List.length x1036)) && true && true) <|
        some [.li (x1036), .li (x1038)])
       (none))
    (fun r1040 =>
     un_nil r1040 <|
     none)
    top (s_l0) (s_l1) (0) (x) (now) (x1023)
def rset_Maximize (s_l0 : List Int) (s_l1 : List Int) (x : Int) (now : Int) : Option (List Leaf) := rset_Maximize_d @rset_Maximize_1_L s_l0 s_l1 x now
def rset_Halve_1_B  {α : Type} (kx : Nat → List Leaf → Option α) (kr : List Leaf → Option α) (again : List Int → List Int → Int → Int → Option α) (s_l0 : List Int) (s_l1 : List Int) (t5 : Int) (t4 : Int) : Option α :=
  br (decide (t5 < t4))
    (chk (decide (0 ≤ t5 ∧ t5 < Int.ofNat (List.length s_l0))) <|
     chk (decide (0 ≤ t5 ∧ t5 < Int.ofNat (List.length s_l0))) <|
     br (List.getD s_l1 (Int.toNat t5) 0 != 18446744073709551615)
       (chk (decide (0 ≤ t5 ∧ t5 < Int.ofNat (List.length s_l0))) <|
        chk (decide (0 ≤ t5 ∧ t5 < Int.ofNat (List.length s_l0))) <|
        one (quoI .u64 (List.getD s_l1 (Int.toNat t5) 0) 2) fun x1047 =>
        chk (decide (0 ≤ t5 ∧ t5 < Int.ofNat (List.length s_l0))) <|
        chk (decide (0 ≤ t5 ∧ t5 < Int.ofNat (List.length s_l0))) <|
        one (addI .i64 t5 1) fun x1048 =>
        chk (decide (Int.ofNat (List.length s_l0) = Int.ofNat (List.length s_l0)) && true && true) <|
        again (s_l0) (List.set s_l1 (Int.toNat t5) x1047) (x1048) (t4))
       (one (addI .i64 t5 1) fun x1049 =>
        chk (decide (Int.ofNat (List.length s_l0) = Int.ofNat (List.length s_l0)) && true && true) <|
        again (s_l0) (s_l1) (x1049) (t4)))
    (chk (decide (Int.ofNat (List.length s_l0) = Int.ofNat (List.length s_l0)) && true && true) <|
     kx 0 [.li (s_l0), .li (s_l1)])
def rset_Halve_1_L {α : Type} (kx : Nat → List Leaf → Option α) (kr : List Leaf → Option α) : Nat → List Int → List Int → Int → Int → Option α
  | 0, _, _, _, _ => none
  | n + 1, s_l0, s_l1, t5, t4 => rset_Halve_1_B  kx kr (rset_Halve_1_L kx kr n) s_l0 s_l1 t5 t4
def rset_Halve_1_F (L1 : ({β : Type} → (Nat → List Leaf → Option β) → (List Leaf → Option β) → Nat → List Int → List Int → Int → Int → Option β)) {α : Type} (n : Nat) (ls : List Leaf) (kx : Nat → List Leaf → Option α) (kr : List Leaf → Option α) : Option α := un_li ls fun s_l0 rr => un_li rr fun s_l1 rr => un_i rr fun t5 rr => un_i rr fun t4 rr => un_nil rr (L1 kx kr n s_l0 s_l1 t5 t4)
def rset_Halve_d (L1 : ({β : Type} → (Nat → List Leaf → Option β) → (List Leaf → Option β) → Nat → List Int → List Int → Int → Int → Option β)) (s_l0 : List Int) (s_l1 : List Int) : Option (List Leaf) :=
  chk (decide (Int.ofNat (List.length s_l0) = Int.ofNat (List.length s_l0)) && true && true) <|
  out (rset_Len s_l0 s_l1) fun r1050 =>
  un_i r1050 fun x1051 r1052 =>
  un_nil r1052 <|
  chk (decide (Int.ofNat (List.length s_l0) = Int.ofNat (List.length s_l0)) && true && true) <|
  L1
    (fun i1053 r1054 =>
     br (Nat.beq 0 i1053)
       (un_li r1054 fun x1055 r1056 =>
        un_li r1056 fun x1057 r1058 =>
        un_nil r1058 <|
        chk (decide (Int.ofNat (List.length x1055) = Int.ofNat (List.length x1055)) && true && true) <|
        some [.li (x1055), .li (x1057)])
       (none))
    (fun r1059 =>
     un_nil r1059 <|
     none)
    top (s_l0) (s_l1) (0) (x1051)
def rset_Halve (s_l0 : List Int) (s_l1 : List Int) : Option (List Leaf) := rset_Halve_d @rset_Halve_1_L s_l0 s_l1
def rset_Update_1 (now : Int) (r : Int) (p_at : Int) (p_x : Int) : Option (List Leaf) :=
  one (mulI .i64 2 r) fun x1060 =>
  one (subI .i64 now x1060) fun x1061 =>
  some [.i (now), .i (r), .b (decide (p_at < x1061))]
def set_IndexFunc_2_B  {α : Type} (kx : Nat → List Leaf → Option α) (kr : List Leaf → Option α) (again : List Int → List Int → Int → Int → Int → Int → Option α) (s0 : List Int) (s1 : List Int) (now : Int) (r : Int) (t8 : Int) (t7 : Int) : Option α :=
  br (decide (t8 < t7))
    (chk (decide (0 ≤ t8 ∧ t8 < Int.ofNat (List.length s0))) <|
     chk (decide (0 ≤ t8 ∧ t8 < Int.ofNat (List.length s0))) <|
     out (rset_Update_1 now r (List.getD s0 (Int.toNat t8) 0) (List.getD s1 (Int.toNat t8) 0)) fun r1071 =>
     un_i r1071 fun x1072 r1073 =>
     un_i r1073 fun x1074 r1075 =>
     un_b r1075 fun x1076 r1077 =>
     un_nil r1077 <|
     br (x1076)
       (kr [.li (s0), .li (s1), .i (x1072), .i (x1074), .i (t8)])
       (one (addI .i64 t8 1) fun x1078 =>
        chk (decide (Int.ofNat (List.length s0) = Int.ofNat (List.length s0)) && true) <|
        again (s0) (s1) (x1072) (x1074) (x1078) (t7)))
    (kx 0 [.li (s0), .li (s1), .i (now), .i (r)])
def set_IndexFunc_2_L {α : Type} (kx : Nat → List Leaf → Option α) (kr : List Leaf → Option α) : Nat → List Int → List Int → Int → Int → Int → Int → Option α
  | 0, _, _, _, _, _, _ => none
  | n + 1, s0, s1, now, r, t8, t7 => set_IndexFunc_2_B  kx kr (set_IndexFunc_2_L kx kr n) s0 s1 now r t8 t7
def set_IndexFunc_2_F (L2 : ({β : Type} → (Nat → List Leaf → Option β) → (List Leaf → Option β) → Nat → List Int → List Int → Int → Int → Int → Int → Option β)) {α : Type} (n : Nat) (ls : List Leaf) (kx : Nat → List Leaf → Option α) (kr : List Leaf → Option α) : Option α := un_li ls fun s0 rr => un_li rr fun s1 rr => un_i rr fun now rr => un_i rr fun r rr => un_i rr fun t8 rr => un_i rr fun t7 rr => un_nil rr (L2 kx kr n s0 s1 now r t8 t7)
def set_IndexFunc_d (L2 : ({β : Type} → (Nat → List Leaf → Option β) → (List Leaf → Option β) → Nat → List Int → List Int → Int → Int → Int → Int → Option β)) (s0 : List Int) (s1 : List Int) (now : Int) (r : Int) : Option (List Leaf) :=
  one (Int.ofNat (List.length s0)) fun x1079 =>
  chk (decide (Int.ofNat (List.length s0) = Int.ofNat (List.length s0)) && true) <|
  L2
    (fun i1080 r1081 =>
     br (Nat.beq 0 i1080)
       (un_li r1081 fun x1082 r1083 =>
        un_li r1083 fun x1084 r1085 =>
        un_i r1085 fun x1086 r1087 =>
        un_i r1087 fun x1088 r1089 =>
        un_nil r1089 <|
        some [.i (x1086), .i (x1088), .i (-1)])
       (none))
    (fun r1090 =>
     un_li r1090 fun x1091 r1092 =>
     un_li r1092 fun x1093 r1094 =>
     un_i r1094 fun x1095 r1096 =>
     un_i r1096 fun x1097 r1098 =>
     un_i r1098 fun x1099 r1100 =>
     un_nil r1100 <|
     some [.i (x1095), .i (x1097), .i (x1099)])
    top (s0) (s1) (now) (r) (0) (x1079)
def set_IndexFunc (s0 : List Int) (s1 : List Int) (now : Int) (r : Int) : Option (List Leaf) := set_IndexFunc_d @set_IndexFunc_2_L s0 s1 now r
def set_DeleteFunc_5_B  {α : Type} (kx : Nat → List Leaf → Option α) (kr : List Leaf → Option α) (again : List Int → List Int → Int → Int → Int → Int → Option α) (s0 : List Int) (s1 : List Int) (now : Int) (r : Int) (j : Int) (i : Int) : Option α :=
  one (Int.ofNat (List.length s0)) fun x1120 =>
  br (decide (j < x1120))
    (chk (decide (0 ≤ j ∧ j < Int.ofNat (List.length s0))) <|
     chk (decide (0 ≤ j ∧ j < Int.ofNat (List.length s0))) <|
     out (rset_Update_1 now r (List.getD s0 (Int.toNat j) 0) (List.getD s1 (Int.toNat j) 0)) fun r1121 =>
     un_i r1121 fun x1122 r1123 =>
     un_i r1123 fun x1124 r1125 =>
     un_b r1125 fun x1126 r1127 =>
     un_nil r1127 <|
     br (!x1126)
       (chk (decide (0 ≤ i ∧ i < Int.ofNat (List.length s0))) <|
        chk (decide (0 ≤ i ∧ i < Int.ofNat (List.length s0))) <|
        one (addI .i64 i 1) fun x1128 =>
        one (addI .i64 j 1) fun x1129 =>
        chk (decide (Int.ofNat (List.length s0) = Int.ofNat (List.length (List.set s0 (Int.toNat i) (List.getD s0 (Int.toNat j) 0)))) && true) <|
        again (List.set s0 (Int.toNat i) (List.getD s0 (Int.toNat j) 0)) (List.set s1 (Int.toNat i) (List.getD s1 (Int.toNat j) 0)) (x1122) (x1124) (x1129) (x1128))
       (one (addI .i64 j 1) fun x1130 =>
        chk (decide (Int.ofNat (List.length s0) = Int.ofNat (List.length s0)) && true) <|
        again (s0) (s1) (x1122) (x1124) (x1130) (i)))
    (chk (decide (Int.ofNat (List.length s0) = Int.ofNat (List.length s0)) && true) <|
     kx 0 [.li (s0), .li (s1), .i (now), .i (r), .i (i)])
def set_DeleteFunc_5_L {α : Type} (kx : Nat → List Leaf → Option α) (kr : List Leaf → Option α) : Nat → List Int → List Int → Int → Int → Int → Int → Option α
  | 0, _, _, _, _, _, _ => none
  | n + 1, s0, s1, now, r, j, i => set_DeleteFunc_5_B  kx kr (set_DeleteFunc_5_L kx kr n) s0 s1 now r j i
def set_DeleteFunc_5_F (L5 : ({β : Type} → (Nat → List Leaf → Option β) → (List Leaf → Option β) → Nat → List Int → List Int → Int → Int → Int → Int → Option β)) {α : Type} (n : Nat) (ls : List Leaf) (kx : Nat → List Leaf → Option α) (kr : List Leaf → Option α) : Option α := un_li ls fun s0 rr => un_li rr fun s1 rr => un_i rr fun now rr => un_i rr fun r rr => un_i rr fun j rr => un_i rr fun i rr => un_nil rr (L5 kx kr n s0 s1 now r j i)
def set_DeleteFunc_d (L5 : ({β : Type} → (Nat → List Leaf → Option β) → (List Leaf → Option β) → Nat → List Int → List Int → Int → Int → Int → Int → Option β)) (s0 : List Int) (s1 : List Int) (now : Int) (r : Int) : Option (List Leaf) :=
  chk (decide (Int.ofNat (List.length s0) = Int.ofNat (List.length s0)) && true) <|
  out (set_IndexFunc s0 s1 now r) fun r1131 =>
  un_i r1131 fun x1132 r1133 =>
  un_i r1133 fun x1134 r1135 =>
  un_i r1135 fun x1136 r1137 =>
  un_nil r1137 <|
  br (x1136 == -1)
    (chk (decide (Int.ofNat (List.length s0) = Int.ofNat (List.length s0)) && true) <|
     some [.li (s0), .li (s1), .i (x1132), .i (x1134)])
    (one (addI .i64 x1136 1) fun x1138 =>
     chk (decide (Int.ofNat (List.length s0) = Int.ofNat (List.length s0)) && true) <|
     L5
       (fun i1139 r1140 =>
        br (Nat.beq 0 i1139)
          (un_li r1140 fun x1141 r1142 =>
           un_li r1142 fun x1143 r1144 =>
           un_i r1144 fun x1145 r1146 =>
           un_i r1146 fun x1147 r1148 =>
           un_i r1148 fun x1149 r1150 =>
           un_nil r1150 <|
           chk (condSl (rlOf [[Col.int .i64 x1141, Col.int .u64 x1143], [], []] 0) (Option.some x1149) Option.none) <|
           none)
          (none))
       (fun r1151 =>
        un_nil r1151 <|
        none)
       top (s0) (s1) (x1132) (x1134) (x1138) (x1136))
def set_DeleteFunc (s0 : List Int) (s1 : List Int) (now : Int) (r : Int) : Option (List Leaf) := set_DeleteFunc_d @set_DeleteFunc_5_L s0 s1 now r
def rset_Update (s_l0 : List Int) (s_l1 : List Int) (x : Int) (now : Int) (r : Int) : Option (List Leaf) :=
  one (maxI now 0) fun x1152 =>
  one (minI x1152 4611686018427387904) fun x1153 =>
  one (maxI r 0) fun x1154 =>
  one (minI x1154 1099511627776) fun x1155 =>
  chk (decide (Int.ofNat (List.length s_l0) = Int.ofNat (List.length s_l0)) && true && decide ((Int.ofNat (List.length s_l0) + ↑1) * ↑16 ≤ 140737488355328 ∧ Int.ofNat (List.length s_l0) + ↑1 ≤ 4611686018427387904)) <|
  chk (decide (Int.ofNat (List.length s_l0) = Int.ofNat (List.length s_l0)) && true && decide ((Int.ofNat (List.length s_l0) + ↑1) * ↑16 ≤ 140737488355328 ∧ Int.ofNat (List.length s_l0) + ↑1 ≤ 4611686018427387904)) <|
  chk (decide (Int.ofNat (List.length s_l0) + ↑1 = Int.ofNat (List.length (s_l0 ++ [x1153]))) && true) <|
  out (set_DeleteFunc (s_l0 ++ [x1153]) (s_l1 ++ [x]) x1153 x1155) fun r1156 =>
  un_li r1156 fun x1157 r1158 =>
  un_li r1158 fun x1159 r1160 =>
  un_i r1160 fun x1161 r1162 =>
  un_i r1162 fun x1163 r1164 =>
  un_nil r1164 <|
  one (Int.ofNat (List.length x1157)) fun x1165 =>
  one (subI .i64 x1165 8) fun x1166 =>
  one (maxI x1166 0) fun x1167 =>
  chk (condSl (rlOf [[], [], [], [Col.int .i64 x1157, Col.int .u64 x1159]] 3) (Option.some x1167) Option.none) <|
  chk (decide (x1167 + lenSl (rlOf [[], [], [], [Col.int .i64 x1157, Col.int .u64 x1159]] 3) (Option.some x1167) Option.none ≤ Int.ofNat (List.length x1157))) <|
  chk (decide (lenSl (rlOf [[], [], [], [Col.int .i64 x1157, Col.int .u64 x1159]] 3) (Option.some x1167) Option.none = Int.ofNat (List.length (List.take (Int.toNat (lenSl (rlOf [[], [], [], [Col.int .i64 x1157, Col.int .u64 x1159]] 3) (Option.some x1167) Option.none)) (List.drop (Int.toNat x1167) x1157)))) && true && true) <|
  some [.li (List.take (Int.toNat (lenSl (rlOf [[], [], [], [Col.int .i64 x1157, Col.int .u64 x1159]] 3) (Option.some x1167) Option.none)) (List.drop (Int.toNat x1167) x1157)), .li (List.take (Int.toNat (lenSl (rlOf [[], [], [], [Col.int .i64 x1157, Col.int .u64 x1159]] 3) (Option.some x1167) Option.none)) (List.drop (Int.toNat x1167) x1159))]
end Go.Sx.T

