import Derived.Test.YtngjglbakgdgaaaGreatDoorYwCtlSpec
set_option linter.all false
namespace Go.Sx.T
open Go Go.Sx
set_option maxRecDepth 100000
def CtrlWait_9111_B  {α : Type} (kx : Nat → List Leaf → Option α) (kr : List Leaf → Option α) (again : List Int → List Int → Int → Int → Int → Int → Int → Bool → Int → Bool → Bool → Int → Bool → Int → Int → Int → Int → Int → Int → Int → Int → Bool → Int → Bool → Bool → Int → Int → Int → Int → Int → Int → Int → Int → Int → Option α) (b_t_set_l0 : List Int) (b_t_set_l1 : List Int) (a_w_cwnd : Int) (a_w_slow : Int) (a_w_pipe : Int) (a_w_count : Int) (a_w_halved_n : Int) (a_w_halved_is : Bool) (a_w_last_n : Int) (a_w_last_is : Bool) (a_w_runs : Bool) (a_w_due : Int) (a_w_rtt_any : Bool) (a_w_rtt_smooth : Int) (a_w_rtt_spread : Int) (a_w_rtt_rto : Int) (b_last : Int) (b_t_s : Int) (b_t_x : Int) (b_t_loss : Int) (b_t_rtt : Int) (b_t_heard : Bool) (b_t_doubled : Int) (b_t_began : Bool) (b_t_started : Bool) (b_t_due : Int) (b_p_s : Int) (b_p_tick : Int) (b_p_has : Int) (b_p_rate : Int) (b_p_now : Int) (i : Int) (n2 : Int) (size : Int) : Option α :=
  br (decide (i < 3))
    (out (cw_May a_w_cwnd a_w_slow a_w_pipe a_w_count a_w_halved_n a_w_halved_is a_w_last_n a_w_last_is a_w_runs a_w_due a_w_rtt_any a_w_rtt_smooth a_w_rtt_spread a_w_rtt_rto 0 n2) fun r884 =>
     un_i r884 fun x885 r886 =>
     un_i r886 fun x887 r888 =>
     un_i r888 fun x889 r890 =>
     un_i r890 fun x891 r892 =>
     un_i r892 fun x893 r894 =>
     un_b r894 fun x895 r896 =>
     un_i r896 fun x897 r898 =>
     un_b r898 fun x899 r900 =>
     un_b r900 fun x901 r902 =>
     un_i r902 fun x903 r904 =>
     un_b r904 fun x905 r906 =>
     un_i r906 fun x907 r908 =>
     un_i r908 fun x909 r910 =>
     un_i r910 fun x911 r912 =>
     un_b r912 fun x913 r914 =>
     un_nil r914 <|
     br (!x913)
       (kr [.b (false)])
       (one (wrapI .u64 i) fun x915 =>
        out (cw_Sent x885 x887 x889 x891 x893 x895 x897 x899 x901 x903 x905 x907 x909 x911 0 x915 n2) fun r916 =>
        un_i r916 fun x917 r918 =>
        un_i r918 fun x919 r920 =>
        un_i r920 fun x921 r922 =>
        un_i r922 fun x923 r924 =>
        un_i r924 fun x925 r926 =>
        un_b r926 fun x927 r928 =>
        un_i r928 fun x929 r930 =>
        un_b r930 fun x931 r932 =>
        un_b r932 fun x933 r934 =>
        un_i r934 fun x935 r936 =>
        un_b r936 fun x937 r938 =>
        un_i r938 fun x939 r940 =>
        un_i r940 fun x941 r942 =>
        un_i r942 fun x943 r944 =>
        un_b r944 fun x945 r946 =>
        un_nil r946 <|
        br (!x945)
          (kr [.b (false)])
          (one (addI .i64 i 1) fun x947 =>
           chk (decide (Int.ofNat (List.length b_t_set_l0) = Int.ofNat (List.length b_t_set_l0)) && true && true) <|
           again (b_t_set_l0) (b_t_set_l1) (x917) (x919) (x921) (x923) (x925) (x927) (x929) (x931) (x933) (x935) (x937) (x939) (x941) (x943) (b_last) (b_t_s) (b_t_x) (b_t_loss) (b_t_rtt) (b_t_heard) (b_t_doubled) (b_t_began) (b_t_started) (b_t_due) (b_p_s) (b_p_tick) (b_p_has) (b_p_rate) (b_p_now) (x947) (n2) (size))))
    (chk (decide (Int.ofNat (List.length b_t_set_l0) = Int.ofNat (List.length b_t_set_l0)) && true && true) <|
     kx 0 [.li (b_t_set_l0), .li (b_t_set_l1), .i (b_last), .i (b_t_s), .i (b_t_x), .i (b_t_loss), .i (b_t_rtt), .b (b_t_heard), .i (b_t_doubled), .b (b_t_began), .b (b_t_started), .i (b_t_due), .i (b_p_s), .i (b_p_tick), .i (b_p_has), .i (b_p_rate), .i (b_p_now), .i (a_w_cwnd), .i (a_w_slow), .i (a_w_pipe), .i (a_w_count), .i (a_w_halved_n), .b (a_w_halved_is), .i (a_w_last_n), .b (a_w_last_is), .b (a_w_runs), .i (a_w_due), .b (a_w_rtt_any), .i (a_w_rtt_smooth), .i (a_w_rtt_spread), .i (a_w_rtt_rto), .i (n2), .i (size)])
def CtrlWait_9111_L {α : Type} (kx : Nat → List Leaf → Option α) (kr : List Leaf → Option α) : Nat → List Int → List Int → Int → Int → Int → Int → Int → Bool → Int → Bool → Bool → Int → Bool → Int → Int → Int → Int → Int → Int → Int → Int → Bool → Int → Bool → Bool → Int → Int → Int → Int → Int → Int → Int → Int → Int → Option α
  | 0, _, _, _, _, _, _, _, _, _, _, _, _, _, _, _, _, _, _, _, _, _, _, _, _, _, _, _, _, _, _, _, _, _, _ => none
  | n + 1, b_t_set_l0, b_t_set_l1, a_w_cwnd, a_w_slow, a_w_pipe, a_w_count, a_w_halved_n, a_w_halved_is, a_w_last_n, a_w_last_is, a_w_runs, a_w_due, a_w_rtt_any, a_w_rtt_smooth, a_w_rtt_spread, a_w_rtt_rto, b_last, b_t_s, b_t_x, b_t_loss, b_t_rtt, b_t_heard, b_t_doubled, b_t_began, b_t_started, b_t_due, b_p_s, b_p_tick, b_p_has, b_p_rate, b_p_now, i, n2, size => CtrlWait_9111_B  kx kr (CtrlWait_9111_L kx kr n) b_t_set_l0 b_t_set_l1 a_w_cwnd a_w_slow a_w_pipe a_w_count a_w_halved_n a_w_halved_is a_w_last_n a_w_last_is a_w_runs a_w_due a_w_rtt_any a_w_rtt_smooth a_w_rtt_spread a_w_rtt_rto b_last b_t_s b_t_x b_t_loss b_t_rtt b_t_heard b_t_doubled b_t_began b_t_started b_t_due b_p_s b_p_tick b_p_has b_p_rate b_p_now i n2 size
def CtrlWait_9111_F (L9111 : ({β : Type} → (Nat → List Leaf → Option β) → (List Leaf → Option β) → Nat → List Int → List Int → Int → Int → Int → Int → Int → Bool → Int → Bool → Bool → Int → Bool → Int → Int → Int → Int → Int → Int → Int → Int → Bool → Int → Bool → Bool → Int → Int → Int → Int → Int → Int → Int → Int → Int → Option β)) {α : Type} (n : Nat) (ls : List Leaf) (kx : Nat → List Leaf → Option α) (kr : List Leaf → Option α) : Option α := un_li ls fun b_t_set_l0 rr => un_li rr fun b_t_set_l1 rr => un_i rr fun a_w_cwnd rr => un_i rr fun a_w_slow rr => un_i rr fun a_w_pipe rr => un_i rr fun a_w_count rr => un_i rr fun a_w_halved_n rr => un_b rr fun a_w_halved_is rr => un_i rr fun a_w_last_n rr => un_b rr fun a_w_last_is rr => un_b rr fun a_w_runs rr => un_i rr fun a_w_due rr => un_b rr fun a_w_rtt_any rr => un_i rr fun a_w_rtt_smooth rr => un_i rr fun a_w_rtt_spread rr => un_i rr fun a_w_rtt_rto rr => un_i rr fun b_last rr => un_i rr fun b_t_s rr => un_i rr fun b_t_x rr => un_i rr fun b_t_loss rr => un_i rr fun b_t_rtt rr => un_b rr fun b_t_heard rr => un_i rr fun b_t_doubled rr => un_b rr fun b_t_began rr => un_b rr fun b_t_started rr => un_i rr fun b_t_due rr => un_i rr fun b_p_s rr => un_i rr fun b_p_tick rr => un_i rr fun b_p_has rr => un_i rr fun b_p_rate rr => un_i rr fun b_p_now rr => un_i rr fun i rr => un_i rr fun n2 rr => un_i rr fun size rr => un_nil rr (L9111 kx kr n b_t_set_l0 b_t_set_l1 a_w_cwnd a_w_slow a_w_pipe a_w_count a_w_halved_n a_w_halved_is a_w_last_n a_w_last_is a_w_runs a_w_due a_w_rtt_any a_w_rtt_smooth a_w_rtt_spread a_w_rtt_rto b_last b_t_s b_t_x b_t_loss b_t_rtt b_t_heard b_t_doubled b_t_began b_t_started b_t_due b_p_s b_p_tick b_p_has b_p_rate b_p_now i n2 size)
def CtrlWait_d (L9111 : ({β : Type} → (Nat → List Leaf → Option β) → (List Leaf → Option β) → Nat → List Int → List Int → Int → Int → Int → Int → Int → Bool → Int → Bool → Bool → Int → Bool → Int → Int → Int → Int → Int → Int → Int → Int → Bool → Int → Bool → Bool → Int → Int → Int → Int → Int → Int → Int → Int → Int → Option β)) (size : Int) (n2 : Int) : Option (List Leaf) :=
  one (remI .i64 size 1400) fun x948 =>
  one (addI .i64 x948 1400) fun x949 =>
  one (remI .i64 x949 1400) fun x950 =>
  one (addI .i64 1 x950) fun x951 =>
  one (remI .i64 n2 1400) fun x952 =>
  one (addI .i64 x952 1400) fun x953 =>
  one (remI .i64 x953 1400) fun x954 =>
  one (addI .i64 1 x954) fun x955 =>
  out (tfrc_New x951) fun r956 =>
  un_li r956 fun x957 r958 =>
  un_li r958 fun x959 r960 =>
  un_i r960 fun x961 r962 =>
  un_i r962 fun x963 r964 =>
  un_i r964 fun x965 r966 =>
  un_i r966 fun x967 r968 =>
  un_b r968 fun x969 r970 =>
  un_i r970 fun x971 r972 =>
  un_b r972 fun x973 r974 =>
  un_b r974 fun x975 r976 =>
  un_i r976 fun x977 r978 =>
  un_nil r978 <|
  out (win_New) fun r979 =>
  un_i r979 fun x980 r981 =>
  un_i r981 fun x982 r983 =>
  un_i r983 fun x984 r985 =>
  un_i r985 fun x986 r987 =>
  un_i r987 fun x988 r989 =>
  un_b r989 fun x990 r991 =>
  un_i r991 fun x992 r993 =>
  un_b r993 fun x994 r995 =>
  un_b r995 fun x996 r997 =>
  un_i r997 fun x998 r999 =>
  un_b r999 fun x1000 r1001 =>
  un_i r1001 fun x1002 r1003 =>
  un_i r1003 fun x1004 r1005 =>
  un_i r1005 fun x1006 r1007 =>
  un_nil r1007 <|
  out (tfrc_New x951) fun r1008 =>
  un_li r1008 fun x1009 r1010 =>
  un_li r1010 fun x1011 r1012 =>
  un_i r1012 fun x1013 r1014 =>
  un_i r1014 fun x1015 r1016 =>
  un_i r1016 fun x1017 r1018 =>
  un_i r1018 fun x1019 r1020 =>
  un_b r1020 fun x1021 r1022 =>
  un_i r1022 fun x1023 r1024 =>
  un_b r1024 fun x1025 r1026 =>
  un_b r1026 fun x1027 r1028 =>
  un_i r1028 fun x1029 r1030 =>
  un_nil r1030 <|
  out (pace_New 1400 10000) fun r1031 =>
  un_i r1031 fun x1032 r1033 =>
  un_i r1033 fun x1034 r1035 =>
  un_i r1035 fun x1036 r1037 =>
  un_i r1037 fun x1038 r1039 =>
  un_i r1039 fun x1040 r1041 =>
  un_nil r1041 <|
  chk (decide (Int.ofNat (List.length x1009) = Int.ofNat (List.length x1009)) && true && true) <|
  L9111
    (fun i1042 r1043 =>
     br (Nat.beq 0 i1042)
       (un_li r1043 fun x1044 r1045 =>
        un_li r1045 fun x1046 r1047 =>
        un_i r1047 fun x1048 r1049 =>
        un_i r1049 fun x1050 r1051 =>
        un_i r1051 fun x1052 r1053 =>
        un_i r1053 fun x1054 r1055 =>
        un_i r1055 fun x1056 r1057 =>
        un_b r1057 fun x1058 r1059 =>
        un_i r1059 fun x1060 r1061 =>
        un_b r1061 fun x1062 r1063 =>
        un_b r1063 fun x1064 r1065 =>
        un_i r1065 fun x1066 r1067 =>
        un_i r1067 fun x1068 r1069 =>
        un_i r1069 fun x1070 r1071 =>
        un_i r1071 fun x1072 r1073 =>
        un_i r1073 fun x1074 r1075 =>
        un_i r1075 fun x1076 r1077 =>
        un_i r1077 fun x1078 r1079 =>
        un_i r1079 fun x1080 r1081 =>
        un_i r1081 fun x1082 r1083 =>
        un_i r1083 fun x1084 r1085 =>
        un_i r1085 fun x1086 r1087 =>
        un_b r1087 fun x1088 r1089 =>
        un_i r1089 fun x1090 r1091 =>
        un_b r1091 fun x1092 r1093 =>
        un_b r1093 fun x1094 r1095 =>
        un_i r1095 fun x1096 r1097 =>
        un_b r1097 fun x1098 r1099 =>
        un_i r1099 fun x1100 r1101 =>
        un_i r1101 fun x1102 r1103 =>
        un_i r1103 fun x1104 r1105 =>
        un_i r1105 fun x1106 r1107 =>
        un_i r1107 fun x1108 r1109 =>
        un_nil r1109 <|
        out (cw_May x1078 x1080 x1082 x1084 x1086 x1088 x1090 x1092 x1094 x1096 x1098 x1100 x1102 x1104 0 x1106) fun r1110 =>
        un_i r1110 fun x1111 r1112 =>
        un_i r1112 fun x1113 r1114 =>
        un_i r1114 fun x1115 r1116 =>
        un_i r1116 fun x1117 r1118 =>
        un_i r1118 fun x1119 r1120 =>
        un_b r1120 fun x1121 r1122 =>
        un_i r1122 fun x1123 r1124 =>
        un_b r1124 fun x1125 r1126 =>
        un_b r1126 fun x1127 r1128 =>
        un_i r1128 fun x1129 r1130 =>
        un_b r1130 fun x1131 r1132 =>
        un_i r1132 fun x1133 r1134 =>
        un_i r1134 fun x1135 r1136 =>
        un_i r1136 fun x1137 r1138 =>
        un_b r1138 fun x1139 r1140 =>
        un_nil r1140 <|
        br (x1139)
          (some [.b (false)])
          (out (cw_Sent x1111 x1113 x1115 x1117 x1119 x1121 x1123 x1125 x1127 x1129 x1131 x1133 x1135 x1137 0 9 x1106) fun r1141 =>
           un_i r1141 fun x1142 r1143 =>
           un_i r1143 fun x1144 r1145 =>
           un_i r1145 fun x1146 r1147 =>
           un_i r1147 fun x1148 r1149 =>
           un_i r1149 fun x1150 r1151 =>
           un_b r1151 fun x1152 r1153 =>
           un_i r1153 fun x1154 r1155 =>
           un_b r1155 fun x1156 r1157 =>
           un_b r1157 fun x1158 r1159 =>
           un_i r1159 fun x1160 r1161 =>
           un_b r1161 fun x1162 r1163 =>
           un_i r1163 fun x1164 r1165 =>
           un_i r1165 fun x1166 r1167 =>
           un_i r1167 fun x1168 r1169 =>
           un_b r1169 fun x1170 r1171 =>
           un_nil r1171 <|
           br (x1170)
             (some [.b (false)])
             (chk (decide (Int.ofNat (List.length x1044) = Int.ofNat (List.length x1044)) && true && true) <|
              out (cr_May x1044 x1046 x1048 x1050 x1052 x1054 x1056 x1058 x1060 x1062 x1064 x1066 x1068 x1070 x1072 x1074 x1076 0 x1106) fun r1172 =>
              un_li r1172 fun x1173 r1174 =>
              un_li r1174 fun x1175 r1176 =>
              un_i r1176 fun x1177 r1178 =>
              un_i r1178 fun x1179 r1180 =>
              un_i r1180 fun x1181 r1182 =>
              un_i r1182 fun x1183 r1184 =>
              un_i r1184 fun x1185 r1186 =>
              un_b r1186 fun x1187 r1188 =>
              un_i r1188 fun x1189 r1190 =>
              un_b r1190 fun x1191 r1192 =>
              un_b r1192 fun x1193 r1194 =>
              un_i r1194 fun x1195 r1196 =>
              un_i r1196 fun x1197 r1198 =>
              un_i r1198 fun x1199 r1200 =>
              un_i r1200 fun x1201 r1202 =>
              un_i r1202 fun x1203 r1204 =>
              un_i r1204 fun x1205 r1206 =>
              un_b r1206 fun x1207 r1208 =>
              un_nil r1208 <|
              br (x1207)
                (some [.b (false)])
                (one (wrapI .u64 x1106) fun x1209 =>
                 one (wrapI .u64 x1108) fun x1210 =>
                 one (mulI .u64 64 x1210) fun x1211 =>
                 out (ref_MulDiv 64000000 x1209 x1211) fun r1212 =>
                 un_i r1212 fun x1213 r1214 =>
                 un_nil r1214 <|
                 one (wrapI .i64 x1213) fun x1215 =>
                 one (subI .i64 x1215 1) fun x1216 =>
                 one (mulI .i64 64 x1108) fun x1217 =>
                 one (subI .i64 x1216 x1217) fun x1218 =>
                 chk (decide (Int.ofNat (List.length x1173) = Int.ofNat (List.length x1173)) && true && true) <|
                 out (cr_May x1173 x1175 x1177 x1179 x1181 x1183 x1185 x1187 x1189 x1191 x1193 x1195 x1197 x1199 x1201 x1203 x1205 x1218 x1106) fun r1219 =>
                 un_li r1219 fun x1220 r1221 =>
                 un_li r1221 fun x1222 r1223 =>
                 un_i r1223 fun x1224 r1225 =>
                 un_i r1225 fun x1226 r1227 =>
                 un_i r1227 fun x1228 r1229 =>
                 un_i r1229 fun x1230 r1231 =>
                 un_i r1231 fun x1232 r1233 =>
                 un_b r1233 fun x1234 r1235 =>
                 un_i r1235 fun x1236 r1237 =>
                 un_b r1237 fun x1238 r1239 =>
                 un_b r1239 fun x1240 r1241 =>
                 un_i r1241 fun x1242 r1243 =>
                 un_i r1243 fun x1244 r1245 =>
                 un_i r1245 fun x1246 r1247 =>
                 un_i r1247 fun x1248 r1249 =>
                 un_i r1249 fun x1250 r1251 =>
                 un_i r1251 fun x1252 r1253 =>
                 un_b r1253 fun x1254 r1255 =>
                 un_nil r1255 <|
                 br (x1254)
                   (one (mulI .i64 64 x1108) fun x1256 =>
                    one (addI .i64 1 x1256) fun x1257 =>
                    br (decide (x1215 > x1257))
                      (some [.b (false)])
                      (one (addI .i64 x1215 1) fun x1258 =>
                       chk (decide (Int.ofNat (List.length x1220) = Int.ofNat (List.length x1220)) && true && true) <|
                       out (cr_May x1220 x1222 x1224 x1226 x1228 x1230 x1232 x1234 x1236 x1238 x1240 x1242 x1244 x1246 x1248 x1250 x1252 x1258 x1106) fun r1259 =>
                       un_li r1259 fun x1260 r1261 =>
                       un_li r1261 fun x1262 r1263 =>
                       un_i r1263 fun x1264 r1265 =>
                       un_i r1265 fun x1266 r1267 =>
                       un_i r1267 fun x1268 r1269 =>
                       un_i r1269 fun x1270 r1271 =>
                       un_i r1271 fun x1272 r1273 =>
                       un_b r1273 fun x1274 r1275 =>
                       un_i r1275 fun x1276 r1277 =>
                       un_b r1277 fun x1278 r1279 =>
                       un_b r1279 fun x1280 r1281 =>
                       un_i r1281 fun x1282 r1283 =>
                       un_i r1283 fun x1284 r1285 =>
                       un_i r1285 fun x1286 r1287 =>
                       un_i r1287 fun x1288 r1289 =>
                       un_i r1289 fun x1290 r1291 =>
                       un_i r1291 fun x1292 r1293 =>
                       un_b r1293 fun x1294 r1295 =>
                       un_nil r1295 <|
                       br (x1294)
                         (one (addI .i64 x1215 1) fun x1296 =>
                          chk (decide (Int.ofNat (List.length x1260) = Int.ofNat (List.length x1260)) && true && true) <|
                          out (cr_Sent x1260 x1262 x1264 x1266 x1268 x1270 x1272 x1274 x1276 x1278 x1280 x1282 x1284 x1286 x1288 x1290 x1292 x1296 1 x1106) fun r1297 =>
                          un_li r1297 fun x1298 r1299 =>
                          un_li r1299 fun x1300 r1301 =>
                          un_i r1301 fun x1302 r1303 =>
                          un_i r1303 fun x1304 r1305 =>
                          un_i r1305 fun x1306 r1307 =>
                          un_i r1307 fun x1308 r1309 =>
                          un_i r1309 fun x1310 r1311 =>
                          un_b r1311 fun x1312 r1313 =>
                          un_i r1313 fun x1314 r1315 =>
                          un_b r1315 fun x1316 r1317 =>
                          un_b r1317 fun x1318 r1319 =>
                          un_i r1319 fun x1320 r1321 =>
                          un_i r1321 fun x1322 r1323 =>
                          un_i r1323 fun x1324 r1325 =>
                          un_i r1325 fun x1326 r1327 =>
                          un_i r1327 fun x1328 r1329 =>
                          un_i r1329 fun x1330 r1331 =>
                          un_b r1331 fun x1332 r1333 =>
                          un_nil r1333 <|
                          br (x1332)
                            (one (addI .i64 x1215 1) fun x1334 =>
                             chk (decide (Int.ofNat (List.length x1298) = Int.ofNat (List.length x1298)) && true && true) <|
                             out (cr_Sent x1298 x1300 x1302 x1304 x1306 x1308 x1310 x1312 x1314 x1316 x1318 x1320 x1322 x1324 x1326 x1328 x1330 x1334 2 x1106) fun r1335 =>
                             un_li r1335 fun x1336 r1337 =>
                             un_li r1337 fun x1338 r1339 =>
                             un_i r1339 fun x1340 r1341 =>
                             un_i r1341 fun x1342 r1343 =>
                             un_i r1343 fun x1344 r1345 =>
                             un_i r1345 fun x1346 r1347 =>
                             un_i r1347 fun x1348 r1349 =>
                             un_b r1349 fun x1350 r1351 =>
                             un_i r1351 fun x1352 r1353 =>
                             un_b r1353 fun x1354 r1355 =>
                             un_b r1355 fun x1356 r1357 =>
                             un_i r1357 fun x1358 r1359 =>
                             un_i r1359 fun x1360 r1361 =>
                             un_i r1361 fun x1362 r1363 =>
                             un_i r1363 fun x1364 r1365 =>
                             un_i r1365 fun x1366 r1367 =>
                             un_i r1367 fun x1368 r1369 =>
                             un_b r1369 fun x1370 r1371 =>
                             un_nil r1371 <|
                             some [.b (!x1370)])
                            (some [.b (false)]))
                         (some [.b (false)])))
                   (one (addI .i64 x1215 1) fun x1372 =>
                    chk (decide (Int.ofNat (List.length x1220) = Int.ofNat (List.length x1220)) && true && true) <|
                    out (cr_May x1220 x1222 x1224 x1226 x1228 x1230 x1232 x1234 x1236 x1238 x1240 x1242 x1244 x1246 x1248 x1250 x1252 x1372 x1106) fun r1373 =>
                    un_li r1373 fun x1374 r1375 =>
                    un_li r1375 fun x1376 r1377 =>
                    un_i r1377 fun x1378 r1379 =>
                    un_i r1379 fun x1380 r1381 =>
                    un_i r1381 fun x1382 r1383 =>
                    un_i r1383 fun x1384 r1385 =>
                    un_i r1385 fun x1386 r1387 =>
                    un_b r1387 fun x1388 r1389 =>
                    un_i r1389 fun x1390 r1391 =>
                    un_b r1391 fun x1392 r1393 =>
                    un_b r1393 fun x1394 r1395 =>
                    un_i r1395 fun x1396 r1397 =>
                    un_i r1397 fun x1398 r1399 =>
                    un_i r1399 fun x1400 r1401 =>
                    un_i r1401 fun x1402 r1403 =>
                    un_i r1403 fun x1404 r1405 =>
                    un_i r1405 fun x1406 r1407 =>
                    un_b r1407 fun x1408 r1409 =>
                    un_nil r1409 <|
                    br (x1408)
                      (one (addI .i64 x1215 1) fun x1410 =>
                       chk (decide (Int.ofNat (List.length x1374) = Int.ofNat (List.length x1374)) && true && true) <|
                       out (cr_Sent x1374 x1376 x1378 x1380 x1382 x1384 x1386 x1388 x1390 x1392 x1394 x1396 x1398 x1400 x1402 x1404 x1406 x1410 1 x1106) fun r1411 =>
                       un_li r1411 fun x1412 r1413 =>
                       un_li r1413 fun x1414 r1415 =>
                       un_i r1415 fun x1416 r1417 =>
                       un_i r1417 fun x1418 r1419 =>
                       un_i r1419 fun x1420 r1421 =>
                       un_i r1421 fun x1422 r1423 =>
                       un_i r1423 fun x1424 r1425 =>
                       un_b r1425 fun x1426 r1427 =>
                       un_i r1427 fun x1428 r1429 =>
                       un_b r1429 fun x1430 r1431 =>
                       un_b r1431 fun x1432 r1433 =>
                       un_i r1433 fun x1434 r1435 =>
                       un_i r1435 fun x1436 r1437 =>
                       un_i r1437 fun x1438 r1439 =>
                       un_i r1439 fun x1440 r1441 =>
                       un_i r1441 fun x1442 r1443 =>
                       un_i r1443 fun x1444 r1445 =>
                       un_b r1445 fun x1446 r1447 =>
                       un_nil r1447 <|
                       br (x1446)
                         (one (addI .i64 x1215 1) fun x1448 =>
                          chk (decide (Int.ofNat (List.length x1412) = Int.ofNat (List.length x1412)) && true && true) <|
                          out (cr_Sent x1412 x1414 x1416 x1418 x1420 x1422 x1424 x1426 x1428 x1430 x1432 x1434 x1436 x1438 x1440 x1442 x1444 x1448 2 x1106) fun r1449 =>
                          un_li r1449 fun x1450 r1451 =>
                          un_li r1451 fun x1452 r1453 =>
                          un_i r1453 fun x1454 r1455 =>
                          un_i r1455 fun x1456 r1457 =>
                          un_i r1457 fun x1458 r1459 =>
                          un_i r1459 fun x1460 r1461 =>
                          un_i r1461 fun x1462 r1463 =>
                          un_b r1463 fun x1464 r1465 =>
                          un_i r1465 fun x1466 r1467 =>
                          un_b r1467 fun x1468 r1469 =>
                          un_b r1469 fun x1470 r1471 =>
                          un_i r1471 fun x1472 r1473 =>
                          un_i r1473 fun x1474 r1475 =>
                          un_i r1475 fun x1476 r1477 =>
                          un_i r1477 fun x1478 r1479 =>
                          un_i r1479 fun x1480 r1481 =>
                          un_i r1481 fun x1482 r1483 =>
                          un_b r1483 fun x1484 r1485 =>
                          un_nil r1485 <|
                          some [.b (!x1484)])
                         (some [.b (false)]))
                      (some [.b (false)]))))))
       (none))
    (fun r1486 =>
     un_b r1486 fun x1487 r1488 =>
     un_nil r1488 <|
     some [.b (x1487)])
    top (x1009) (x1011) (x980) (x982) (x984) (x986) (x988) (x990) (x992) (x994) (x996) (x998) (x1000) (x1002) (x1004) (x1006) (0) (x1013) (x1015) (x1017) (x1019) (x1021) (x1023) (x1025) (x1027) (x1029) (x1032) (x1034) (x1036) (x1038) (x1040) (0) (x955) (x951)
def CtrlWait (size : Int) (n2 : Int) : Option (List Leaf) := CtrlWait_d @CtrlWait_9111_L size n2
end Go.Sx.T

