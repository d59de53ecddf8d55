import Derived.Test.YthcddikjnpbnjaaGreatDoorYFeedSpec
import Derived.Test.YthcddikjnpbnjaaGreatDoorYOld
set_option linter.all false
namespace Go.Sx.T
open Go Go.Sx
def feed_Put (f_got_k : List Int) (f_got_v : List Int) (f_lost_k : List Int) (f_lost_v : List Bool) (f_closed : List Int) (f_r : Int) (f_any : Bool) (f_now : Int) (f_first : Int) (f_newest : Int) (f_count : Int) (f_event : Bool) (f_eventAt : Int) (f_eventN : Int) (f_bytes : Int) (f_since : Int) (now : Int) (n2 : Int) (size : Int) : Option (List Leaf) :=
  out (seq_Of n2) fun r924 =>
  un_i r924 fun x925 r926 =>
  un_nil r926 <|
  one (minI now 4611686018427387904) fun x927 =>
  one (maxI f_now x927) fun x928 =>
  one (mget 0 f_got_k f_got_v x925) fun x929 =>
  br (mhas f_got_k x925)
    (chk (decide (Int.ofNat (List.length f_closed) = Int.ofNat (List.length f_closed)) && true && true) <|
     some [.li (f_got_k), .li (f_got_v), .li (f_lost_k), .lb (f_lost_v), .li (f_closed), .i (f_r), .b (f_any), .i (x928), .i (f_first), .i (f_newest), .i (f_count), .b (f_event), .i (f_eventAt), .i (f_eventN), .i (f_bytes), .i (f_since), .b (false)])
    (br (mget false f_lost_k f_lost_v x925)
       (chk (decide (Int.ofNat (List.length f_closed) = Int.ofNat (List.length f_closed)) && true && true) <|
        some [.li (f_got_k), .li (f_got_v), .li (f_lost_k), .lb (f_lost_v), .li (f_closed), .i (f_r), .b (f_any), .i (x928), .i (f_first), .i (f_newest), .i (f_count), .b (f_event), .i (f_eventAt), .i (f_eventN), .i (f_bytes), .i (f_since), .b (false)])
       (br (f_any)
          (out (seq_Diff f_newest x925) fun r930 =>
           un_i r930 fun x931 r932 =>
           un_nil r932 <|
           br (decide (x931 ≥ 250))
             (chk (decide (Int.ofNat (List.length f_closed) = Int.ofNat (List.length f_closed)) && true && true) <|
              some [.li (f_got_k), .li (f_got_v), .li (f_lost_k), .lb (f_lost_v), .li (f_closed), .i (f_r), .b (f_any), .i (x928), .i (f_first), .i (f_newest), .i (f_count), .b (f_event), .i (f_eventAt), .i (f_eventN), .i (f_bytes), .i (f_since), .b (false)])
             (br (!f_any)
                (one (maxI size 0) fun x933 =>
                 one (minI x933 65535) fun x934 =>
                 one (wrapI .u64 x934) fun x935 =>
                 one (addI .u64 f_bytes x935) fun x936 =>
                 out (seq_Less x925 x925) fun r937 =>
                 un_b r937 fun x938 r939 =>
                 un_nil r939 <|
                 br (x938)
                   (chk (decide (Int.ofNat (List.length f_closed) = Int.ofNat (List.length f_closed)) && true && true) <|
                    out (feed_old (mputK f_got_k x925) (mputV f_got_k f_got_v x925 x928) f_lost_k f_lost_v f_closed f_r true x928 x925 x925 f_count f_event f_eventAt f_eventN x936 x928) fun r940 =>
                    un_li r940 fun x941 r942 =>
                    un_li r942 fun x943 r944 =>
                    un_li r944 fun x945 r946 =>
                    un_lb r946 fun x947 r948 =>
                    un_li r948 fun x949 r950 =>
                    un_i r950 fun x951 r952 =>
                    un_b r952 fun x953 r954 =>
                    un_i r954 fun x955 r956 =>
                    un_i r956 fun x957 r958 =>
                    un_i r958 fun x959 r960 =>
                    un_i r960 fun x961 r962 =>
                    un_b r962 fun x963 r964 =>
                    un_i r964 fun x965 r966 =>
                    un_i r966 fun x967 r968 =>
                    un_i r968 fun x969 r970 =>
                    un_i r970 fun x971 r972 =>
                    un_nil r972 <|
                    chk (decide (Int.ofNat (List.length x949) = Int.ofNat (List.length x949)) && true && true) <|
                    out (feed_look x941 x943 x945 x947 x949 x951 x953 x955 x957 x959 x961 x963 x965 x967 x969 x971) fun r973 =>
                    un_li r973 fun x974 r975 =>
                    un_li r975 fun x976 r977 =>
                    un_li r977 fun x978 r979 =>
                    un_lb r979 fun x980 r981 =>
                    un_li r981 fun x982 r983 =>
                    un_i r983 fun x984 r985 =>
                    un_b r985 fun x986 r987 =>
                    un_i r987 fun x988 r989 =>
                    un_i r989 fun x990 r991 =>
                    un_i r991 fun x992 r993 =>
                    un_i r993 fun x994 r995 =>
                    un_b r995 fun x996 r997 =>
                    un_i r997 fun x998 r999 =>
                    un_i r999 fun x1000 r1001 =>
                    un_i r1001 fun x1002 r1003 =>
                    un_i r1003 fun x1004 r1005 =>
                    un_nil r1005 <|
                    chk (decide (Int.ofNat (List.length x982) = Int.ofNat (List.length x982)) && true && true) <|
                    some [.li (x974), .li (x976), .li (x978), .lb (x980), .li (x982), .i (x984), .b (x986), .i (x988), .i (x990), .i (x992), .i (x994), .b (x996), .i (x998), .i (x1000), .i (x1002), .i (x1004), .b (true)])
                   (chk (decide (Int.ofNat (List.length f_closed) = Int.ofNat (List.length f_closed)) && true && true) <|
                    out (feed_look (mputK f_got_k x925) (mputV f_got_k f_got_v x925 x928) f_lost_k f_lost_v f_closed f_r true x928 x925 x925 f_count f_event f_eventAt f_eventN x936 x928) fun r1006 =>
                    un_li r1006 fun x1007 r1008 =>
                    un_li r1008 fun x1009 r1010 =>
                    un_li r1010 fun x1011 r1012 =>
                    un_lb r1012 fun x1013 r1014 =>
                    un_li r1014 fun x1015 r1016 =>
                    un_i r1016 fun x1017 r1018 =>
                    un_b r1018 fun x1019 r1020 =>
                    un_i r1020 fun x1021 r1022 =>
                    un_i r1022 fun x1023 r1024 =>
                    un_i r1024 fun x1025 r1026 =>
                    un_i r1026 fun x1027 r1028 =>
                    un_b r1028 fun x1029 r1030 =>
                    un_i r1030 fun x1031 r1032 =>
                    un_i r1032 fun x1033 r1034 =>
                    un_i r1034 fun x1035 r1036 =>
                    un_i r1036 fun x1037 r1038 =>
                    un_nil r1038 <|
                    chk (decide (Int.ofNat (List.length x1015) = Int.ofNat (List.length x1015)) && true && true) <|
                    some [.li (x1007), .li (x1009), .li (x1011), .lb (x1013), .li (x1015), .i (x1017), .b (x1019), .i (x1021), .i (x1023), .i (x1025), .i (x1027), .b (x1029), .i (x1031), .i (x1033), .i (x1035), .i (x1037), .b (true)]))
                (one (maxI size 0) fun x1039 =>
                 one (minI x1039 65535) fun x1040 =>
                 one (wrapI .u64 x1040) fun x1041 =>
                 one (addI .u64 f_bytes x1041) fun x1042 =>
                 out (seq_Less f_newest x925) fun r1043 =>
                 un_b r1043 fun x1044 r1045 =>
                 un_nil r1045 <|
                 br (x1044)
                   (chk (decide (Int.ofNat (List.length f_closed) = Int.ofNat (List.length f_closed)) && true && true) <|
                    out (feed_old (mputK f_got_k x925) (mputV f_got_k f_got_v x925 x928) f_lost_k f_lost_v f_closed f_r f_any x928 f_first x925 f_count f_event f_eventAt f_eventN x1042 f_since) fun r1046 =>
                    un_li r1046 fun x1047 r1048 =>
                    un_li r1048 fun x1049 r1050 =>
                    un_li r1050 fun x1051 r1052 =>
                    un_lb r1052 fun x1053 r1054 =>
                    un_li r1054 fun x1055 r1056 =>
                    un_i r1056 fun x1057 r1058 =>
                    un_b r1058 fun x1059 r1060 =>
                    un_i r1060 fun x1061 r1062 =>
                    un_i r1062 fun x1063 r1064 =>
                    un_i r1064 fun x1065 r1066 =>
                    un_i r1066 fun x1067 r1068 =>
                    un_b r1068 fun x1069 r1070 =>
                    un_i r1070 fun x1071 r1072 =>
                    un_i r1072 fun x1073 r1074 =>
                    un_i r1074 fun x1075 r1076 =>
                    un_i r1076 fun x1077 r1078 =>
                    un_nil r1078 <|
                    chk (decide (Int.ofNat (List.length x1055) = Int.ofNat (List.length x1055)) && true && true) <|
                    out (feed_look x1047 x1049 x1051 x1053 x1055 x1057 x1059 x1061 x1063 x1065 x1067 x1069 x1071 x1073 x1075 x1077) fun r1079 =>
                    un_li r1079 fun x1080 r1081 =>
                    un_li r1081 fun x1082 r1083 =>
                    un_li r1083 fun x1084 r1085 =>
                    un_lb r1085 fun x1086 r1087 =>
                    un_li r1087 fun x1088 r1089 =>
                    un_i r1089 fun x1090 r1091 =>
                    un_b r1091 fun x1092 r1093 =>
                    un_i r1093 fun x1094 r1095 =>
                    un_i r1095 fun x1096 r1097 =>
                    un_i r1097 fun x1098 r1099 =>
                    un_i r1099 fun x1100 r1101 =>
                    un_b r1101 fun x1102 r1103 =>
                    un_i r1103 fun x1104 r1105 =>
                    un_i r1105 fun x1106 r1107 =>
                    un_i r1107 fun x1108 r1109 =>
                    un_i r1109 fun x1110 r1111 =>
                    un_nil r1111 <|
                    chk (decide (Int.ofNat (List.length x1088) = Int.ofNat (List.length x1088)) && true && true) <|
                    some [.li (x1080), .li (x1082), .li (x1084), .lb (x1086), .li (x1088), .i (x1090), .b (x1092), .i (x1094), .i (x1096), .i (x1098), .i (x1100), .b (x1102), .i (x1104), .i (x1106), .i (x1108), .i (x1110), .b (true)])
                   (chk (decide (Int.ofNat (List.length f_closed) = Int.ofNat (List.length f_closed)) && true && true) <|
                    out (feed_look (mputK f_got_k x925) (mputV f_got_k f_got_v x925 x928) f_lost_k f_lost_v f_closed f_r f_any x928 f_first f_newest f_count f_event f_eventAt f_eventN x1042 f_since) fun r1112 =>
                    un_li r1112 fun x1113 r1114 =>
                    un_li r1114 fun x1115 r1116 =>
                    un_li r1116 fun x1117 r1118 =>
                    un_lb r1118 fun x1119 r1120 =>
                    un_li r1120 fun x1121 r1122 =>
                    un_i r1122 fun x1123 r1124 =>
                    un_b r1124 fun x1125 r1126 =>
                    un_i r1126 fun x1127 r1128 =>
                    un_i r1128 fun x1129 r1130 =>
                    un_i r1130 fun x1131 r1132 =>
                    un_i r1132 fun x1133 r1134 =>
                    un_b r1134 fun x1135 r1136 =>
                    un_i r1136 fun x1137 r1138 =>
                    un_i r1138 fun x1139 r1140 =>
                    un_i r1140 fun x1141 r1142 =>
                    un_i r1142 fun x1143 r1144 =>
                    un_nil r1144 <|
                    chk (decide (Int.ofNat (List.length x1121) = Int.ofNat (List.length x1121)) && true && true) <|
                    some [.li (x1113), .li (x1115), .li (x1117), .lb (x1119), .li (x1121), .i (x1123), .b (x1125), .i (x1127), .i (x1129), .i (x1131), .i (x1133), .b (x1135), .i (x1137), .i (x1139), .i (x1141), .i (x1143), .b (true)]))))
          (br (!f_any)
             (one (maxI size 0) fun x1145 =>
              one (minI x1145 65535) fun x1146 =>
              one (wrapI .u64 x1146) fun x1147 =>
              one (addI .u64 f_bytes x1147) fun x1148 =>
              out (seq_Less x925 x925) fun r1149 =>
              un_b r1149 fun x1150 r1151 =>
              un_nil r1151 <|
              br (x1150)
                (chk (decide (Int.ofNat (List.length f_closed) = Int.ofNat (List.length f_closed)) && true && true) <|
                 out (feed_old (mputK f_got_k x925) (mputV f_got_k f_got_v x925 x928) f_lost_k f_lost_v f_closed f_r true x928 x925 x925 f_count f_event f_eventAt f_eventN x1148 x928) fun r1152 =>
                 un_li r1152 fun x1153 r1154 =>
                 un_li r1154 fun x1155 r1156 =>
                 un_li r1156 fun x1157 r1158 =>
                 un_lb r1158 fun x1159 r1160 =>
                 un_li r1160 fun x1161 r1162 =>
                 un_i r1162 fun x1163 r1164 =>
                 un_b r1164 fun x1165 r1166 =>
                 un_i r1166 fun x1167 r1168 =>
                 un_i r1168 fun x1169 r1170 =>
                 un_i r1170 fun x1171 r1172 =>
                 un_i r1172 fun x1173 r1174 =>
                 un_b r1174 fun x1175 r1176 =>
                 un_i r1176 fun x1177 r1178 =>
                 un_i r1178 fun x1179 r1180 =>
                 un_i r1180 fun x1181 r1182 =>
                 un_i r1182 fun x1183 r1184 =>
                 un_nil r1184 <|
                 chk (decide (Int.ofNat (List.length x1161) = Int.ofNat (List.length x1161)) && true && true) <|
                 out (feed_look x1153 x1155 x1157 x1159 x1161 x1163 x1165 x1167 x1169 x1171 x1173 x1175 x1177 x1179 x1181 x1183) fun r1185 =>
                 un_li r1185 fun x1186 r1187 =>
                 un_li r1187 fun x1188 r1189 =>
                 un_li r1189 fun x1190 r1191 =>
                 un_lb r1191 fun x1192 r1193 =>
                 un_li r1193 fun x1194 r1195 =>
                 un_i r1195 fun x1196 r1197 =>
                 un_b r1197 fun x1198 r1199 =>
                 un_i r1199 fun x1200 r1201 =>
                 un_i r1201 fun x1202 r1203 =>
                 un_i r1203 fun x1204 r1205 =>
                 un_i r1205 fun x1206 r1207 =>
                 un_b r1207 fun x1208 r1209 =>
                 un_i r1209 fun x1210 r1211 =>
                 un_i r1211 fun x1212 r1213 =>
                 un_i r1213 fun x1214 r1215 =>
                 un_i r1215 fun x1216 r1217 =>
                 un_nil r1217 <|
                 chk (decide (Int.ofNat (List.length x1194) = Int.ofNat (List.length x1194)) && true && true) <|
                 some [.li (x1186), .li (x1188), .li (x1190), .lb (x1192), .li (x1194), .i (x1196), .b (x1198), .i (x1200), .i (x1202), .i (x1204), .i (x1206), .b (x1208), .i (x1210), .i (x1212), .i (x1214), .i (x1216), .b (true)])
                (chk (decide (Int.ofNat (List.length f_closed) = Int.ofNat (List.length f_closed)) && true && true) <|
                 out (feed_look (mputK f_got_k x925) (mputV f_got_k f_got_v x925 x928) f_lost_k f_lost_v f_closed f_r true x928 x925 x925 f_count f_event f_eventAt f_eventN x1148 x928) fun r1218 =>
                 un_li r1218 fun x1219 r1220 =>
                 un_li r1220 fun x1221 r1222 =>
                 un_li r1222 fun x1223 r1224 =>
                 un_lb r1224 fun x1225 r1226 =>
                 un_li r1226 fun x1227 r1228 =>
                 un_i r1228 fun x1229 r1230 =>
                 un_b r1230 fun x1231 r1232 =>
                 un_i r1232 fun x1233 r1234 =>
                 un_i r1234 fun x1235 r1236 =>
                 un_i r1236 fun x1237 r1238 =>
                 un_i r1238 fun x1239 r1240 =>
                 un_b r1240 fun x1241 r1242 =>
                 un_i r1242 fun x1243 r1244 =>
                 un_i r1244 fun x1245 r1246 =>
                 un_i r1246 fun x1247 r1248 =>
                 un_i r1248 fun x1249 r1250 =>
                 un_nil r1250 <|
                 chk (decide (Int.ofNat (List.length x1227) = Int.ofNat (List.length x1227)) && true && true) <|
                 some [.li (x1219), .li (x1221), .li (x1223), .lb (x1225), .li (x1227), .i (x1229), .b (x1231), .i (x1233), .i (x1235), .i (x1237), .i (x1239), .b (x1241), .i (x1243), .i (x1245), .i (x1247), .i (x1249), .b (true)]))
             (one (maxI size 0) fun x1251 =>
              one (minI x1251 65535) fun x1252 =>
              one (wrapI .u64 x1252) fun x1253 =>
              one (addI .u64 f_bytes x1253) fun x1254 =>
              out (seq_Less f_newest x925) fun r1255 =>
              un_b r1255 fun x1256 r1257 =>
              un_nil r1257 <|
              br (x1256)
                (chk (decide (Int.ofNat (List.length f_closed) = Int.ofNat (List.length f_closed)) && true && true) <|
                 out (feed_old (mputK f_got_k x925) (mputV f_got_k f_got_v x925 x928) f_lost_k f_lost_v f_closed f_r f_any x928 f_first x925 f_count f_event f_eventAt f_eventN x1254 f_since) fun r1258 =>
                 un_li r1258 fun x1259 r1260 =>
                 un_li r1260 fun x1261 r1262 =>
                 un_li r1262 fun x1263 r1264 =>
                 un_lb r1264 fun x1265 r1266 =>
                 un_li r1266 fun x1267 r1268 =>
                 un_i r1268 fun x1269 r1270 =>
                 un_b r1270 fun x1271 r1272 =>
                 un_i r1272 fun x1273 r1274 =>
                 un_i r1274 fun x1275 r1276 =>
                 un_i r1276 fun x1277 r1278 =>
                 un_i r1278 fun x1279 r1280 =>
                 un_b r1280 fun x1281 r1282 =>
                 un_i r1282 fun x1283 r1284 =>
                 un_i r1284 fun x1285 r1286 =>
                 un_i r1286 fun x1287 r1288 =>
                 un_i r1288 fun x1289 r1290 =>
                 un_nil r1290 <|
                 chk (decide (Int.ofNat (List.length x1267) = Int.ofNat (List.length x1267)) && true && true) <|
                 out (feed_look x1259 x1261 x1263 x1265 x1267 x1269 x1271 x1273 x1275 x1277 x1279 x1281 x1283 x1285 x1287 x1289) fun r1291 =>
                 un_li r1291 fun x1292 r1293 =>
                 un_li r1293 fun x1294 r1295 =>
                 un_li r1295 fun x1296 r1297 =>
                 un_lb r1297 fun x1298 r1299 =>
                 un_li r1299 fun x1300 r1301 =>
                 un_i r1301 fun x1302 r1303 =>
                 un_b r1303 fun x1304 r1305 =>
                 un_i r1305 fun x1306 r1307 =>
                 un_i r1307 fun x1308 r1309 =>
                 un_i r1309 fun x1310 r1311 =>
                 un_i r1311 fun x1312 r1313 =>
                 un_b r1313 fun x1314 r1315 =>
                 un_i r1315 fun x1316 r1317 =>
                 un_i r1317 fun x1318 r1319 =>
                 un_i r1319 fun x1320 r1321 =>
                 un_i r1321 fun x1322 r1323 =>
                 un_nil r1323 <|
                 chk (decide (Int.ofNat (List.length x1300) = Int.ofNat (List.length x1300)) && true && true) <|
                 some [.li (x1292), .li (x1294), .li (x1296), .lb (x1298), .li (x1300), .i (x1302), .b (x1304), .i (x1306), .i (x1308), .i (x1310), .i (x1312), .b (x1314), .i (x1316), .i (x1318), .i (x1320), .i (x1322), .b (true)])
                (chk (decide (Int.ofNat (List.length f_closed) = Int.ofNat (List.length f_closed)) && true && true) <|
                 out (feed_look (mputK f_got_k x925) (mputV f_got_k f_got_v x925 x928) f_lost_k f_lost_v f_closed f_r f_any x928 f_first f_newest f_count f_event f_eventAt f_eventN x1254 f_since) fun r1324 =>
                 un_li r1324 fun x1325 r1326 =>
                 un_li r1326 fun x1327 r1328 =>
                 un_li r1328 fun x1329 r1330 =>
                 un_lb r1330 fun x1331 r1332 =>
                 un_li r1332 fun x1333 r1334 =>
                 un_i r1334 fun x1335 r1336 =>
                 un_b r1336 fun x1337 r1338 =>
                 un_i r1338 fun x1339 r1340 =>
                 un_i r1340 fun x1341 r1342 =>
                 un_i r1342 fun x1343 r1344 =>
                 un_i r1344 fun x1345 r1346 =>
                 un_b r1346 fun x1347 r1348 =>
                 un_i r1348 fun x1349 r1350 =>
                 un_i r1350 fun x1351 r1352 =>
                 un_i r1352 fun x1353 r1354 =>
                 un_i r1354 fun x1355 r1356 =>
                 un_nil r1356 <|
                 chk (decide (Int.ofNat (List.length x1333) = Int.ofNat (List.length x1333)) && true && true) <|
                 some [.li (x1325), .li (x1327), .li (x1329), .lb (x1331), .li (x1333), .i (x1335), .b (x1337), .i (x1339), .i (x1341), .i (x1343), .i (x1345), .b (x1347), .i (x1349), .i (x1351), .i (x1353), .i (x1355), .b (true)])))))
end Go.Sx.T

