import Derived.Test.YtllgbgponmkijaaGreatDoorYPaceSpec
set_option linter.all false
namespace Go.Sx.T
open Go Go.Sx
def PaceBound_26_B  {α : Type} (kx : Nat → List Leaf → Option α) (kr : List Leaf → Option α) (again : List Int → List Int → List Int → List Int → List Int → List Int → Int → Int → Int → Int → Int → Int → Int → Int → Int → Int → Int → Bool → Int → Int → Int → Option α) (ops0 : List Int) (ops1 : List Int) (ops2 : List Int) (ops3 : List Int) (t1000 : List Int) (t1001 : List Int) (m_given : Int) (m_taken : Int) (p_s : Int) (p_tick : Int) (p_has : Int) (p_rate : Int) (p_now : Int) (t102 : Int) (most : Int) (x : Int) (now : Int) (t36 : Bool) (t35 : Int) (i : Int) (t101 : Int) : Option α :=
  br (decide (t102 < t101))
    (chk (decide ((0 : Int) ≤ t102 ∧ t102 < Int.ofNat (List.length t1000))) <|
     chk (decide ((0 : Int) ≤ t102 ∧ t102 < Int.ofNat (List.length t1000))) <|
     one (subI .u64 m_taken (List.getD t1001 (Int.toNat t102) 0)) fun x533 =>
     one (subI .u64 m_given (List.getD t1000 (Int.toNat t102) 0)) fun x534 =>
     one (addI .u64 x534 most) fun x535 =>
     br (decide (x533 > x535))
       (kr [.li (ops0), .li (ops1), .li (ops2), .li (ops3), .b (false)])
       (one (addI .i64 t102 1) fun x536 =>
        chk (decide (Int.ofNat (List.length t1000) = Int.ofNat (List.length t1000)) && (decide (Int.ofNat (List.length ops0) = Int.ofNat (List.length ops0)) && (decide (Int.ofNat (List.length t1000) = Int.ofNat (List.length t1000)) && true))) <|
        again (ops0) (ops1) (ops2) (ops3) (t1000) (t1001) (m_given) (m_taken) (p_s) (p_tick) (p_has) (p_rate) (p_now) (x536) (most) (x) (now) (t36) (t35) (i) (t101)))
    (chk (decide (Int.ofNat (List.length ops0) = Int.ofNat (List.length ops0)) && (decide (Int.ofNat (List.length t1000) = Int.ofNat (List.length t1000)) && true)) <|
     kx 2 [.li (ops0), .li (ops1), .li (ops2), .li (ops3), .li (t1000), .li (t1001), .i (m_given), .i (m_taken), .i (p_s), .i (p_tick), .i (p_has), .i (p_rate), .i (p_now), .i (most), .i (x), .i (now), .b (t36), .i (t35), .i (i)])
def PaceBound_26_L {α : Type} (kx : Nat → List Leaf → Option α) (kr : List Leaf → Option α) : Nat → List Int → List Int → List Int → List Int → List Int → List Int → Int → Int → Int → Int → Int → Int → Int → Int → Int → Int → Int → Bool → Int → Int → Int → Option α
  | 0, _, _, _, _, _, _, _, _, _, _, _, _, _, _, _, _, _, _, _, _, _ => none
  | n + 1, ops0, ops1, ops2, ops3, t1000, t1001, m_given, m_taken, p_s, p_tick, p_has, p_rate, p_now, t102, most, x, now, t36, t35, i, t101 => PaceBound_26_B  kx kr (PaceBound_26_L kx kr n) ops0 ops1 ops2 ops3 t1000 t1001 m_given m_taken p_s p_tick p_has p_rate p_now t102 most x now t36 t35 i t101
def PaceBound_26_F (L26 : ({β : Type} → (Nat → List Leaf → Option β) → (List Leaf → Option β) → Nat → List Int → List Int → List Int → List Int → List Int → List Int → Int → Int → Int → Int → Int → Int → Int → Int → Int → Int → Int → Bool → Int → Int → Int → Option β)) {α : Type} (n : Nat) (ls : List Leaf) (kx : Nat → List Leaf → Option α) (kr : List Leaf → Option α) : Option α := un_li ls fun ops0 rr => un_li rr fun ops1 rr => un_li rr fun ops2 rr => un_li rr fun ops3 rr => un_li rr fun t1000 rr => un_li rr fun t1001 rr => un_i rr fun m_given rr => un_i rr fun m_taken rr => un_i rr fun p_s rr => un_i rr fun p_tick rr => un_i rr fun p_has rr => un_i rr fun p_rate rr => un_i rr fun p_now rr => un_i rr fun t102 rr => un_i rr fun most rr => un_i rr fun x rr => un_i rr fun now rr => un_b rr fun t36 rr => un_i rr fun t35 rr => un_i rr fun i rr => un_i rr fun t101 rr => un_nil rr (L26 kx kr n ops0 ops1 ops2 ops3 t1000 t1001 m_given m_taken p_s p_tick p_has p_rate p_now t102 most x now t36 t35 i t101)
def PaceBound_11_B (L26 : ({β : Type} → (Nat → List Leaf → Option β) → (List Leaf → Option β) → Nat → List Int → List Int → List Int → List Int → List Int → List Int → Int → Int → Int → Int → Int → Int → Int → Int → Int → Int → Int → Bool → Int → Int → Int → Option β)) {α : Type} (kx : Nat → List Leaf → Option α) (kr : List Leaf → Option α) (again : List Int → List Int → List Int → List Int → List Int → List Int → Int → Int → Int → Int → Int → Int → Int → Int → Int → Int → Int → Option α) (ops0 : List Int) (ops1 : List Int) (ops2 : List Int) (ops3 : List Int) (l0 : List Int) (l1 : List Int) (m_given : Int) (m_taken : Int) (p_s : Int) (p_tick : Int) (p_has : Int) (p_rate : Int) (p_now : Int) (i : Int) (most : Int) (x : Int) (now : Int) : Option α :=
  one (Int.ofNat (List.length ops0)) fun x936 =>
  br (decide (i < x936))
    (br (decide (i < 40))
       (chk (decide ((0 : Int) ≤ i ∧ i < Int.ofNat (List.length ops0))) <|
        chk (decide ((0 : Int) ≤ i ∧ i < Int.ofNat (List.length ops0))) <|
        one (remI .i64 (List.getD ops3 (Int.toNat i) 0) 2000000) fun x937 =>
        br (decide (x937 < 0))
          (one (subI .i64 0 x937) fun x938 =>
           one (addI .i64 now x938) fun x939 =>
           one (wrapI .u64 x938) fun x940 =>
           one (mulI .u64 x x940) fun x941 =>
           one (addI .u64 m_given x941) fun x942 =>
           chk (decide ((0 : Int) ≤ i ∧ i < Int.ofNat (List.length ops0))) <|
           chk (decide ((0 : Int) ≤ i ∧ i < Int.ofNat (List.length ops0))) <|
           br (List.getD ops0 (Int.toNat i) 0 == 0)
             (chk (decide ((0 : Int) ≤ i ∧ i < Int.ofNat (List.length ops0))) <|
              chk (decide ((0 : Int) ≤ i ∧ i < Int.ofNat (List.length ops0))) <|
              one (remI .u64 (List.getD ops2 (Int.toNat i) 0) 1000000000) fun x943 =>
              out (pace_Rate p_s p_tick p_has p_rate p_now x939 x943) fun r944 =>
              un_i r944 fun x945 r946 =>
              un_i r946 fun x947 r948 =>
              un_i r948 fun x949 r950 =>
              un_i r950 fun x951 r952 =>
              un_i r952 fun x953 r954 =>
              un_nil r954 <|
              out (pace_Cap x945 x947 x949 x951 x953) fun r955 =>
              un_i r955 fun x956 r957 =>
              un_nil r957 <|
              one (maxI most x956) fun x958 =>
              one (Int.ofNat (List.length l0)) fun x959 =>
              chk (decide (Int.ofNat (List.length l0) = Int.ofNat (List.length l0)) && (decide (Int.ofNat (List.length ops0) = Int.ofNat (List.length ops0)) && (decide (Int.ofNat (List.length l0) = Int.ofNat (List.length l0)) && true))) <|
              L26
                (fun i960 r961 =>
                 br (Nat.beq 2 i960)
                   (un_li r961 fun x962 r963 =>
                    un_li r963 fun x964 r965 =>
                    un_li r965 fun x966 r967 =>
                    un_li r967 fun x968 r969 =>
                    un_li r969 fun x970 r971 =>
                    un_li r971 fun x972 r973 =>
                    un_i r973 fun x974 r975 =>
                    un_i r975 fun x976 r977 =>
                    un_i r977 fun x978 r979 =>
                    un_i r979 fun x980 r981 =>
                    un_i r981 fun x982 r983 =>
                    un_i r983 fun x984 r985 =>
                    un_i r985 fun x986 r987 =>
                    un_i r987 fun x988 r989 =>
                    un_i r989 fun x990 r991 =>
                    un_i r991 fun x992 r993 =>
                    un_b r993 fun x994 r995 =>
                    un_i r995 fun x996 r997 =>
                    un_i r997 fun x998 r999 =>
                    un_nil r999 <|
                    chk (decide (Int.ofNat (List.length x970) = Int.ofNat (List.length x970)) && true && decide ((Int.ofNat (List.length x970) + (↑(1 : Nat) : Int)) * (↑(nat_lit 16) : Int) ≤ (140737488355328 : Int) ∧ Int.ofNat (List.length x970) + (↑(1 : Nat) : Int) ≤ (4611686018427387904 : Int))) <|
                    one (addI .i64 x998 1) fun x1000 =>
                    chk (decide (Int.ofNat (List.length x970) + (↑(1 : Nat) : Int) = Int.ofNat (List.length (x970 ++ [x974]))) && (decide (Int.ofNat (List.length x962) = Int.ofNat (List.length x962)) && true)) <|
                    again (x962) (x964) (x966) (x968) (x970 ++ [x974]) (x972 ++ [x976]) (x974) (x976) (x978) (x980) (x982) (x984) (x986) (x1000) (x988) (x990) (x992))
                   (none))
                (fun r1001 =>
                 un_li r1001 fun x1002 r1003 =>
                 un_li r1003 fun x1004 r1005 =>
                 un_li r1005 fun x1006 r1007 =>
                 un_li r1007 fun x1008 r1009 =>
                 un_b r1009 fun x1010 r1011 =>
                 un_nil r1011 <|
                 kr [.li (x1002), .li (x1004), .li (x1006), .li (x1008), .b (x1010)])
                top (ops0) (ops1) (ops2) (ops3) (l0) (l1) (x942) (m_taken) (x945) (x947) (x949) (x951) (x953) (0) (x958) (x943) (x939) (decide (i < 40)) (i) (i) (x959))
             (chk (decide ((0 : Int) ≤ i ∧ i < Int.ofNat (List.length ops0))) <|
              chk (decide ((0 : Int) ≤ i ∧ i < Int.ofNat (List.length ops0))) <|
              one (remI .i64 (List.getD ops1 (Int.toNat i) 0) 2000) fun x1012 =>
              one (addI .i64 x1012 2000) fun x1013 =>
              one (remI .i64 x1013 2000) fun x1014 =>
              out (pace_Take p_s p_tick p_has p_rate p_now x939 x1014) fun r1015 =>
              un_i r1015 fun x1016 r1017 =>
              un_i r1017 fun x1018 r1019 =>
              un_i r1019 fun x1020 r1021 =>
              un_i r1021 fun x1022 r1023 =>
              un_i r1023 fun x1024 r1025 =>
              un_b r1025 fun x1026 r1027 =>
              un_nil r1027 <|
              br (x1026)
                (one (wrapI .u64 x1014) fun x1028 =>
                 one (mulI .u64 64000000 x1028) fun x1029 =>
                 one (addI .u64 m_taken x1029) fun x1030 =>
                 one (Int.ofNat (List.length l0)) fun x1031 =>
                 chk (decide (Int.ofNat (List.length l0) = Int.ofNat (List.length l0)) && (decide (Int.ofNat (List.length ops0) = Int.ofNat (List.length ops0)) && (decide (Int.ofNat (List.length l0) = Int.ofNat (List.length l0)) && true))) <|
                 L26
                   (fun i1032 r1033 =>
                    br (Nat.beq 2 i1032)
                      (un_li r1033 fun x1034 r1035 =>
                       un_li r1035 fun x1036 r1037 =>
                       un_li r1037 fun x1038 r1039 =>
                       un_li r1039 fun x1040 r1041 =>
                       un_li r1041 fun x1042 r1043 =>
                       un_li r1043 fun x1044 r1045 =>
                       un_i r1045 fun x1046 r1047 =>
                       un_i r1047 fun x1048 r1049 =>
                       un_i r1049 fun x1050 r1051 =>
                       un_i r1051 fun x1052 r1053 =>
                       un_i r1053 fun x1054 r1055 =>
                       un_i r1055 fun x1056 r1057 =>
                       un_i r1057 fun x1058 r1059 =>
                       un_i r1059 fun x1060 r1061 =>
                       un_i r1061 fun x1062 r1063 =>
                       un_i r1063 fun x1064 r1065 =>
                       un_b r1065 fun x1066 r1067 =>
                       un_i r1067 fun x1068 r1069 =>
                       un_i r1069 fun x1070 r1071 =>
                       un_nil r1071 <|
                       chk (decide (Int.ofNat (List.length x1042) = Int.ofNat (List.length x1042)) && true && decide ((Int.ofNat (List.length x1042) + (↑(1 : Nat) : Int)) * (↑(nat_lit 16) : Int) ≤ (140737488355328 : Int) ∧ Int.ofNat (List.length x1042) + (↑(1 : Nat) : Int) ≤ (4611686018427387904 : Int))) <|
                       one (addI .i64 x1070 1) fun x1072 =>
                       chk (decide (Int.ofNat (List.length x1042) + (↑(1 : Nat) : Int) = Int.ofNat (List.length (x1042 ++ [x1046]))) && (decide (Int.ofNat (List.length x1034) = Int.ofNat (List.length x1034)) && true)) <|
                       again (x1034) (x1036) (x1038) (x1040) (x1042 ++ [x1046]) (x1044 ++ [x1048]) (x1046) (x1048) (x1050) (x1052) (x1054) (x1056) (x1058) (x1072) (x1060) (x1062) (x1064))
                      (none))
                   (fun r1073 =>
                    un_li r1073 fun x1074 r1075 =>
                    un_li r1075 fun x1076 r1077 =>
                    un_li r1077 fun x1078 r1079 =>
                    un_li r1079 fun x1080 r1081 =>
                    un_b r1081 fun x1082 r1083 =>
                    un_nil r1083 <|
                    kr [.li (x1074), .li (x1076), .li (x1078), .li (x1080), .b (x1082)])
                   top (ops0) (ops1) (ops2) (ops3) (l0) (l1) (x942) (x1030) (x1016) (x1018) (x1020) (x1022) (x1024) (0) (most) (x) (x939) (decide (i < 40)) (i) (i) (x1031))
                (one (Int.ofNat (List.length l0)) fun x1084 =>
                 chk (decide (Int.ofNat (List.length l0) = Int.ofNat (List.length l0)) && (decide (Int.ofNat (List.length ops0) = Int.ofNat (List.length ops0)) && (decide (Int.ofNat (List.length l0) = Int.ofNat (List.length l0)) && true))) <|
                 L26
                   (fun i1085 r1086 =>
                    br (Nat.beq 2 i1085)
                      (un_li r1086 fun x1087 r1088 =>
                       un_li r1088 fun x1089 r1090 =>
                       un_li r1090 fun x1091 r1092 =>
                       un_li r1092 fun x1093 r1094 =>
                       un_li r1094 fun x1095 r1096 =>
                       un_li r1096 fun x1097 r1098 =>
                       un_i r1098 fun x1099 r1100 =>
                       un_i r1100 fun x1101 r1102 =>
                       un_i r1102 fun x1103 r1104 =>
                       un_i r1104 fun x1105 r1106 =>
                       un_i r1106 fun x1107 r1108 =>
                       un_i r1108 fun x1109 r1110 =>
                       un_i r1110 fun x1111 r1112 =>
                       un_i r1112 fun x1113 r1114 =>
                       un_i r1114 fun x1115 r1116 =>
                       un_i r1116 fun x1117 r1118 =>
                       un_b r1118 fun x1119 r1120 =>
                       un_i r1120 fun x1121 r1122 =>
                       un_i r1122 fun x1123 r1124 =>
                       un_nil r1124 <|
                       chk (decide (Int.ofNat (List.length x1095) = Int.ofNat (List.length x1095)) && true && decide ((Int.ofNat (List.length x1095) + (↑(1 : Nat) : Int)) * (↑(nat_lit 16) : Int) ≤ (140737488355328 : Int) ∧ Int.ofNat (List.length x1095) + (↑(1 : Nat) : Int) ≤ (4611686018427387904 : Int))) <|
                       one (addI .i64 x1123 1) fun x1125 =>
                       chk (decide (Int.ofNat (List.length x1095) + (↑(1 : Nat) : Int) = Int.ofNat (List.length (x1095 ++ [x1099]))) && (decide (Int.ofNat (List.length x1087) = Int.ofNat (List.length x1087)) && true)) <|
                       again (x1087) (x1089) (x1091) (x1093) (x1095 ++ [x1099]) (x1097 ++ [x1101]) (x1099) (x1101) (x1103) (x1105) (x1107) (x1109) (x1111) (x1125) (x1113) (x1115) (x1117))
                      (none))
                   (fun r1126 =>
                    un_li r1126 fun x1127 r1128 =>
                    un_li r1128 fun x1129 r1130 =>
                    un_li r1130 fun x1131 r1132 =>
                    un_li r1132 fun x1133 r1134 =>
                    un_b r1134 fun x1135 r1136 =>
                    un_nil r1136 <|
                    kr [.li (x1127), .li (x1129), .li (x1131), .li (x1133), .b (x1135)])
                   top (ops0) (ops1) (ops2) (ops3) (l0) (l1) (x942) (m_taken) (x1016) (x1018) (x1020) (x1022) (x1024) (0) (most) (x) (x939) (decide (i < 40)) (i) (i) (x1084))))
          (one (addI .i64 now x937) fun x1137 =>
           one (wrapI .u64 x937) fun x1138 =>
           one (mulI .u64 x x1138) fun x1139 =>
           one (addI .u64 m_given x1139) fun x1140 =>
           chk (decide ((0 : Int) ≤ i ∧ i < Int.ofNat (List.length ops0))) <|
           chk (decide ((0 : Int) ≤ i ∧ i < Int.ofNat (List.length ops0))) <|
           br (List.getD ops0 (Int.toNat i) 0 == 0)
             (chk (decide ((0 : Int) ≤ i ∧ i < Int.ofNat (List.length ops0))) <|
              chk (decide ((0 : Int) ≤ i ∧ i < Int.ofNat (List.length ops0))) <|
              one (remI .u64 (List.getD ops2 (Int.toNat i) 0) 1000000000) fun x1141 =>
              out (pace_Rate p_s p_tick p_has p_rate p_now x1137 x1141) fun r1142 =>
              un_i r1142 fun x1143 r1144 =>
              un_i r1144 fun x1145 r1146 =>
              un_i r1146 fun x1147 r1148 =>
              un_i r1148 fun x1149 r1150 =>
              un_i r1150 fun x1151 r1152 =>
              un_nil r1152 <|
              out (pace_Cap x1143 x1145 x1147 x1149 x1151) fun r1153 =>
              un_i r1153 fun x1154 r1155 =>
              un_nil r1155 <|
              one (maxI most x1154) fun x1156 =>
              one (Int.ofNat (List.length l0)) fun x1157 =>
              chk (decide (Int.ofNat (List.length l0) = Int.ofNat (List.length l0)) && (decide (Int.ofNat (List.length ops0) = Int.ofNat (List.length ops0)) && (decide (Int.ofNat (List.length l0) = Int.ofNat (List.length l0)) && true))) <|
              L26
                (fun i1158 r1159 =>
                 br (Nat.beq 2 i1158)
                   (un_li r1159 fun x1160 r1161 =>
                    un_li r1161 fun x1162 r1163 =>
                    un_li r1163 fun x1164 r1165 =>
                    un_li r1165 fun x1166 r1167 =>
                    un_li r1167 fun x1168 r1169 =>
                    un_li r1169 fun x1170 r1171 =>
                    un_i r1171 fun x1172 r1173 =>
                    un_i r1173 fun x1174 r1175 =>
                    un_i r1175 fun x1176 r1177 =>
                    un_i r1177 fun x1178 r1179 =>
                    un_i r1179 fun x1180 r1181 =>
                    un_i r1181 fun x1182 r1183 =>
                    un_i r1183 fun x1184 r1185 =>
                    un_i r1185 fun x1186 r1187 =>
                    un_i r1187 fun x1188 r1189 =>
                    un_i r1189 fun x1190 r1191 =>
                    un_b r1191 fun x1192 r1193 =>
                    un_i r1193 fun x1194 r1195 =>
                    un_i r1195 fun x1196 r1197 =>
                    un_nil r1197 <|
                    chk (decide (Int.ofNat (List.length x1168) = Int.ofNat (List.length x1168)) && true && decide ((Int.ofNat (List.length x1168) + (↑(1 : Nat) : Int)) * (↑(nat_lit 16) : Int) ≤ (140737488355328 : Int) ∧ Int.ofNat (List.length x1168) + (↑(1 : Nat) : Int) ≤ (4611686018427387904 : Int))) <|
                    one (addI .i64 x1196 1) fun x1198 =>
                    chk (decide (Int.ofNat (List.length x1168) + (↑(1 : Nat) : Int) = Int.ofNat (List.length (x1168 ++ [x1172]))) && (decide (Int.ofNat (List.length x1160) = Int.ofNat (List.length x1160)) && true)) <|
                    again (x1160) (x1162) (x1164) (x1166) (x1168 ++ [x1172]) (x1170 ++ [x1174]) (x1172) (x1174) (x1176) (x1178) (x1180) (x1182) (x1184) (x1198) (x1186) (x1188) (x1190))
                   (none))
                (fun r1199 =>
                 un_li r1199 fun x1200 r1201 =>
                 un_li r1201 fun x1202 r1203 =>
                 un_li r1203 fun x1204 r1205 =>
                 un_li r1205 fun x1206 r1207 =>
                 un_b r1207 fun x1208 r1209 =>
                 un_nil r1209 <|
                 kr [.li (x1200), .li (x1202), .li (x1204), .li (x1206), .b (x1208)])
                top (ops0) (ops1) (ops2) (ops3) (l0) (l1) (x1140) (m_taken) (x1143) (x1145) (x1147) (x1149) (x1151) (0) (x1156) (x1141) (x1137) (decide (i < 40)) (i) (i) (x1157))
             (chk (decide ((0 : Int) ≤ i ∧ i < Int.ofNat (List.length ops0))) <|
              chk (decide ((0 : Int) ≤ i ∧ i < Int.ofNat (List.length ops0))) <|
              one (remI .i64 (List.getD ops1 (Int.toNat i) 0) 2000) fun x1210 =>
              one (addI .i64 x1210 2000) fun x1211 =>
              one (remI .i64 x1211 2000) fun x1212 =>
              out (pace_Take p_s p_tick p_has p_rate p_now x1137 x1212) fun r1213 =>
              un_i r1213 fun x1214 r1215 =>
              un_i r1215 fun x1216 r1217 =>
              un_i r1217 fun x1218 r1219 =>
              un_i r1219 fun x1220 r1221 =>
              un_i r1221 fun x1222 r1223 =>
              un_b r1223 fun x1224 r1225 =>
              un_nil r1225 <|
              br (x1224)
                (one (wrapI .u64 x1212) fun x1226 =>
                 one (mulI .u64 64000000 x1226) fun x1227 =>
                 one (addI .u64 m_taken x1227) fun x1228 =>
                 one (Int.ofNat (List.length l0)) fun x1229 =>
                 chk (decide (Int.ofNat (List.length l0) = Int.ofNat (List.length l0)) && (decide (Int.ofNat (List.length ops0) = Int.ofNat (List.length ops0)) && (decide (Int.ofNat (List.length l0) = Int.ofNat (List.length l0)) && true))) <|
                 L26
                   (fun i1230 r1231 =>
                    br (Nat.beq 2 i1230)
                      (un_li r1231 fun x1232 r1233 =>
                       un_li r1233 fun x1234 r1235 =>
                       un_li r1235 fun x1236 r1237 =>
                       un_li r1237 fun x1238 r1239 =>
                       un_li r1239 fun x1240 r1241 =>
                       un_li r1241 fun x1242 r1243 =>
                       un_i r1243 fun x1244 r1245 =>
                       un_i r1245 fun x1246 r1247 =>
                       un_i r1247 fun x1248 r1249 =>
                       un_i r1249 fun x1250 r1251 =>
                       un_i r1251 fun x1252 r1253 =>
                       un_i r1253 fun x1254 r1255 =>
                       un_i r1255 fun x1256 r1257 =>
                       un_i r1257 fun x1258 r1259 =>
                       un_i r1259 fun x1260 r1261 =>
                       un_i r1261 fun x1262 r1263 =>
                       un_b r1263 fun x1264 r1265 =>
                       un_i r1265 fun x1266 r1267 =>
                       un_i r1267 fun x1268 r1269 =>
                       un_nil r1269 <|
                       chk (decide (Int.ofNat (List.length x1240) = Int.ofNat (List.length x1240)) && true && decide ((Int.ofNat (List.length x1240) + (↑(1 : Nat) : Int)) * (↑(nat_lit 16) : Int) ≤ (140737488355328 : Int) ∧ Int.ofNat (List.length x1240) + (↑(1 : Nat) : Int) ≤ (4611686018427387904 : Int))) <|
                       one (addI .i64 x1268 1) fun x1270 =>
                       chk (decide (Int.ofNat (List.length x1240) + (↑(1 : Nat) : Int) = Int.ofNat (List.length (x1240 ++ [x1244]))) && (decide (Int.ofNat (List.length x1232) = Int.ofNat (List.length x1232)) && true)) <|
                       again (x1232) (x1234) (x1236) (x1238) (x1240 ++ [x1244]) (x1242 ++ [x1246]) (x1244) (x1246) (x1248) (x1250) (x1252) (x1254) (x1256) (x1270) (x1258) (x1260) (x1262))
                      (none))
                   (fun r1271 =>
                    un_li r1271 fun x1272 r1273 =>
                    un_li r1273 fun x1274 r1275 =>
                    un_li r1275 fun x1276 r1277 =>
                    un_li r1277 fun x1278 r1279 =>
                    un_b r1279 fun x1280 r1281 =>
                    un_nil r1281 <|
                    kr [.li (x1272), .li (x1274), .li (x1276), .li (x1278), .b (x1280)])
                   top (ops0) (ops1) (ops2) (ops3) (l0) (l1) (x1140) (x1228) (x1214) (x1216) (x1218) (x1220) (x1222) (0) (most) (x) (x1137) (decide (i < 40)) (i) (i) (x1229))
                (one (Int.ofNat (List.length l0)) fun x1282 =>
                 chk (decide (Int.ofNat (List.length l0) = Int.ofNat (List.length l0)) && (decide (Int.ofNat (List.length ops0) = Int.ofNat (List.length ops0)) && (decide (Int.ofNat (List.length l0) = Int.ofNat (List.length l0)) && true))) <|
                 L26
                   (fun i1283 r1284 =>
                    br (Nat.beq 2 i1283)
                      (un_li r1284 fun x1285 r1286 =>
                       un_li r1286 fun x1287 r1288 =>
                       un_li r1288 fun x1289 r1290 =>
                       un_li r1290 fun x1291 r1292 =>
                       un_li r1292 fun x1293 r1294 =>
                       un_li r1294 fun x1295 r1296 =>
                       un_i r1296 fun x1297 r1298 =>
                       un_i r1298 fun x1299 r1300 =>
                       un_i r1300 fun x1301 r1302 =>
                       un_i r1302 fun x1303 r1304 =>
                       un_i r1304 fun x1305 r1306 =>
                       un_i r1306 fun x1307 r1308 =>
                       un_i r1308 fun x1309 r1310 =>
                       un_i r1310 fun x1311 r1312 =>
                       un_i r1312 fun x1313 r1314 =>
                       un_i r1314 fun x1315 r1316 =>
                       un_b r1316 fun x1317 r1318 =>
                       un_i r1318 fun x1319 r1320 =>
                       un_i r1320 fun x1321 r1322 =>
                       un_nil r1322 <|
                       chk (decide (Int.ofNat (List.length x1293) = Int.ofNat (List.length x1293)) && true && decide ((Int.ofNat (List.length x1293) + (↑(1 : Nat) : Int)) * (↑(nat_lit 16) : Int) ≤ (140737488355328 : Int) ∧ Int.ofNat (List.length x1293) + (↑(1 : Nat) : Int) ≤ (4611686018427387904 : Int))) <|
                       one (addI .i64 x1321 1) fun x1323 =>
                       chk (decide (Int.ofNat (List.length x1293) + (↑(1 : Nat) : Int) = Int.ofNat (List.length (x1293 ++ [x1297]))) && (decide (Int.ofNat (List.length x1285) = Int.ofNat (List.length x1285)) && true)) <|
                       again (x1285) (x1287) (x1289) (x1291) (x1293 ++ [x1297]) (x1295 ++ [x1299]) (x1297) (x1299) (x1301) (x1303) (x1305) (x1307) (x1309) (x1323) (x1311) (x1313) (x1315))
                      (none))
                   (fun r1324 =>
                    un_li r1324 fun x1325 r1326 =>
                    un_li r1326 fun x1327 r1328 =>
                    un_li r1328 fun x1329 r1330 =>
                    un_li r1330 fun x1331 r1332 =>
                    un_b r1332 fun x1333 r1334 =>
                    un_nil r1334 <|
                    kr [.li (x1325), .li (x1327), .li (x1329), .li (x1331), .b (x1333)])
                   top (ops0) (ops1) (ops2) (ops3) (l0) (l1) (x1140) (m_taken) (x1214) (x1216) (x1218) (x1220) (x1222) (0) (most) (x) (x1137) (decide (i < 40)) (i) (i) (x1282)))))
       (kx 0 [.li (ops0), .li (ops1), .li (ops2), .li (ops3)]))
    (kx 0 [.li (ops0), .li (ops1), .li (ops2), .li (ops3)])
def PaceBound_11_L {α : Type} (kx : Nat → List Leaf → Option α) (kr : List Leaf → Option α) : Nat → List Int → List Int → List Int → List Int → List Int → List Int → Int → Int → Int → Int → Int → Int → Int → Int → Int → Int → Int → Option α
  | 0, _, _, _, _, _, _, _, _, _, _, _, _, _, _, _, _, _ => none
  | n + 1, ops0, ops1, ops2, ops3, l0, l1, m_given, m_taken, p_s, p_tick, p_has, p_rate, p_now, i, most, x, now => PaceBound_11_B @PaceBound_26_L kx kr (PaceBound_11_L kx kr n) ops0 ops1 ops2 ops3 l0 l1 m_given m_taken p_s p_tick p_has p_rate p_now i most x now
def PaceBound_11_F (L11 : ({β : Type} → (Nat → List Leaf → Option β) → (List Leaf → Option β) → Nat → List Int → List Int → List Int → List Int → List Int → List Int → Int → Int → Int → Int → Int → Int → Int → Int → Int → Int → Int → Option β)) {α : Type} (n : Nat) (ls : List Leaf) (kx : Nat → List Leaf → Option α) (kr : List Leaf → Option α) : Option α := un_li ls fun ops0 rr => un_li rr fun ops1 rr => un_li rr fun ops2 rr => un_li rr fun ops3 rr => un_li rr fun l0 rr => un_li rr fun l1 rr => un_i rr fun m_given rr => un_i rr fun m_taken rr => un_i rr fun p_s rr => un_i rr fun p_tick rr => un_i rr fun p_has rr => un_i rr fun p_rate rr => un_i rr fun p_now rr => un_i rr fun i rr => un_i rr fun most rr => un_i rr fun x rr => un_i rr fun now rr => un_nil rr (L11 kx kr n ops0 ops1 ops2 ops3 l0 l1 m_given m_taken p_s p_tick p_has p_rate p_now i most x now)
def PaceBound_d (L11 : ({β : Type} → (Nat → List Leaf → Option β) → (List Leaf → Option β) → Nat → List Int → List Int → List Int → List Int → List Int → List Int → Int → Int → Int → Int → Int → Int → Int → Int → Int → Int → Int → Option β)) (ops0 : List Int) (ops1 : List Int) (ops2 : List Int) (ops3 : List Int) (s : Int) : Option (List Leaf) :=
  one (remI .i64 s 1400) fun x1335 =>
  one (addI .i64 x1335 1400) fun x1336 =>
  one (remI .i64 x1336 1400) fun x1337 =>
  one (addI .i64 1 x1337) fun x1338 =>
  out (pace_New x1338 1000) fun r1339 =>
  un_i r1339 fun x1340 r1341 =>
  un_i r1341 fun x1342 r1343 =>
  un_i r1343 fun x1344 r1345 =>
  un_i r1345 fun x1346 r1347 =>
  un_i r1347 fun x1348 r1349 =>
  un_nil r1349 <|
  out (pace_Cap x1340 x1342 x1344 x1346 x1348) fun r1350 =>
  un_i r1350 fun x1351 r1352 =>
  un_nil r1352 <|
  chk (decide ((0 : Int) = Int.ofNat (0 : Nat)) && (decide (Int.ofNat (List.length ops0) = Int.ofNat (List.length ops0)) && true)) <|
  L11
    (fun i1353 r1354 =>
     br (Nat.beq 0 i1353)
       (un_li r1354 fun x1355 r1356 =>
        un_li r1356 fun x1357 r1358 =>
        un_li r1358 fun x1359 r1360 =>
        un_li r1360 fun x1361 r1362 =>
        un_nil r1362 <|
        some [.b (true)])
       (none))
    (fun r1363 =>
     un_li r1363 fun x1364 r1365 =>
     un_li r1365 fun x1366 r1367 =>
     un_li r1367 fun x1368 r1369 =>
     un_li r1369 fun x1370 r1371 =>
     un_b r1371 fun x1372 r1373 =>
     un_nil r1373 <|
     some [.b (x1372)])
    top (ops0) (ops1) (ops2) (ops3) ([]) ([]) (0) (0) (x1340) (x1342) (x1344) (x1346) (x1348) (0) (x1351) (0) (0)
def PaceBound (ops0 : List Int) (ops1 : List Int) (ops2 : List Int) (ops3 : List Int) (s : Int) : Option (List Leaf) := PaceBound_d @PaceBound_11_L ops0 ops1 ops2 ops3 s
end Go.Sx.T

