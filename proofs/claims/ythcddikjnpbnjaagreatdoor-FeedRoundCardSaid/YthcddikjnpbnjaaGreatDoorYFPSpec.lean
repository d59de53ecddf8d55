import Derived.Test.YthcddikjnpbnjaaGreatDoorYFeedSpec
import Derived.Test.YthcddikjnpbnjaaGreatDoorYOld
set_option linter.all false
namespace Go.Sx.T
open Go Go.Sx
def feed_Put (f_got_k : List Int) (f_got_v : List Int) (f_lost_k : List Int) (f_lost_v : List Bool) (f_closed : List Int) (f_r : Int) (f_any : Bool) (f_now : Int) (f_first : Int) (f_newest : Int) (f_count : Int) (f_event : Bool) (f_eventAt : Int) (f_eventN : Int) (f_bytes : Int) (f_since : Int) (now : Int) (n2 : Int) (size : Int) : Option (List Leaf) :=
  out (seq_Of n2) fun r951 =>
  un_i r951 fun x952 r953 =>
  un_nil r953 <|
  one (minI now 4611686018427387904) fun x954 =>
  one (maxI f_now x954) fun x955 =>
  one (mget 0 f_got_k f_got_v x952) fun x956 =>
  br (mhas f_got_k x952)
    (chk (decide (Int.ofNat (List.length f_closed) = Int.ofNat (List.length f_closed)) && true && true) <|
     some [.li (f_got_k), .li (f_got_v), .li (f_lost_k), .lb (f_lost_v), .li (f_closed), .i (f_r), .b (f_any), .i (x955), .i (f_first), .i (f_newest), .i (f_count), .b (f_event), .i (f_eventAt), .i (f_eventN), .i (f_bytes), .i (f_since), .b (false)])
    (br (mget false f_lost_k f_lost_v x952)
       (chk (decide (Int.ofNat (List.length f_closed) = Int.ofNat (List.length f_closed)) && true && true) <|
        some [.li (f_got_k), .li (f_got_v), .li (f_lost_k), .lb (f_lost_v), .li (f_closed), .i (f_r), .b (f_any), .i (x955), .i (f_first), .i (f_newest), .i (f_count), .b (f_event), .i (f_eventAt), .i (f_eventN), .i (f_bytes), .i (f_since), .b (false)])
       (br (f_any)
          (out (seq_Diff f_newest x952) fun r957 =>
           un_i r957 fun x958 r959 =>
           un_nil r959 <|
           br (decide (x958 ≥ 250))
             (chk (decide (Int.ofNat (List.length f_closed) = Int.ofNat (List.length f_closed)) && true && true) <|
              some [.li (f_got_k), .li (f_got_v), .li (f_lost_k), .lb (f_lost_v), .li (f_closed), .i (f_r), .b (f_any), .i (x955), .i (f_first), .i (f_newest), .i (f_count), .b (f_event), .i (f_eventAt), .i (f_eventN), .i (f_bytes), .i (f_since), .b (false)])
             (br (!f_any)
                (one (maxI size 0) fun x960 =>
                 one (minI x960 65535) fun x961 =>
                 one (wrapI .u64 x961) fun x962 =>
                 one (addI .u64 f_bytes x962) fun x963 =>
                 out (seq_Less x952 x952) fun r964 =>
                 un_b r964 fun x965 r966 =>
                 un_nil r966 <|
                 br (x965)
                   (chk (decide (Int.ofNat (List.length f_closed) = Int.ofNat (List.length f_closed)) && true && true) <|
                    out (feed_old (mputK f_got_k x952) (mputV f_got_k f_got_v x952 x955) f_lost_k f_lost_v f_closed f_r true x955 x952 x952 f_count f_event f_eventAt f_eventN x963 x955) fun r967 =>
                    un_li r967 fun x968 r969 =>
                    un_li r969 fun x970 r971 =>
                    un_li r971 fun x972 r973 =>
                    un_lb r973 fun x974 r975 =>
                    un_li r975 fun x976 r977 =>
                    un_i r977 fun x978 r979 =>
                    un_b r979 fun x980 r981 =>
                    un_i r981 fun x982 r983 =>
                    un_i r983 fun x984 r985 =>
                    un_i r985 fun x986 r987 =>
                    un_i r987 fun x988 r989 =>
                    un_b r989 fun x990 r991 =>
                    un_i r991 fun x992 r993 =>
                    un_i r993 fun x994 r995 =>
                    un_i r995 fun x996 r997 =>
                    un_i r997 fun x998 r999 =>
                    un_nil r999 <|
                    chk (decide (Int.ofNat (List.length x976) = Int.ofNat (List.length x976)) && true && true) <|
                    out (feed_look x968 x970 x972 x974 x976 x978 x980 x982 x984 x986 x988 x990 x992 x994 x996 x998) fun r1000 =>
                    un_li r1000 fun x1001 r1002 =>
                    un_li r1002 fun x1003 r1004 =>
                    un_li r1004 fun x1005 r1006 =>
                    un_lb r1006 fun x1007 r1008 =>
                    un_li r1008 fun x1009 r1010 =>
                    un_i r1010 fun x1011 r1012 =>
                    un_b r1012 fun x1013 r1014 =>
                    un_i r1014 fun x1015 r1016 =>
                    un_i r1016 fun x1017 r1018 =>
                    un_i r1018 fun x1019 r1020 =>
                    un_i r1020 fun x1021 r1022 =>
                    un_b r1022 fun x1023 r1024 =>
                    un_i r1024 fun x1025 r1026 =>
                    un_i r1026 fun x1027 r1028 =>
                    un_i r1028 fun x1029 r1030 =>
                    un_i r1030 fun x1031 r1032 =>
                    un_nil r1032 <|
                    chk (decide (Int.ofNat (List.length x1009) = Int.ofNat (List.length x1009)) && true && true) <|
                    some [.li (x1001), .li (x1003), .li (x1005), .lb (x1007), .li (x1009), .i (x1011), .b (x1013), .i (x1015), .i (x1017), .i (x1019), .i (x1021), .b (x1023), .i (x1025), .i (x1027), .i (x1029), .i (x1031), .b (true)])
                   (chk (decide (Int.ofNat (List.length f_closed) = Int.ofNat (List.length f_closed)) && true && true) <|
                    out (feed_look (mputK f_got_k x952) (mputV f_got_k f_got_v x952 x955) f_lost_k f_lost_v f_closed f_r true x955 x952 x952 f_count f_event f_eventAt f_eventN x963 x955) fun r1033 =>
                    un_li r1033 fun x1034 r1035 =>
                    un_li r1035 fun x1036 r1037 =>
                    un_li r1037 fun x1038 r1039 =>
                    un_lb r1039 fun x1040 r1041 =>
                    un_li r1041 fun x1042 r1043 =>
                    un_i r1043 fun x1044 r1045 =>
                    un_b r1045 fun x1046 r1047 =>
                    un_i r1047 fun x1048 r1049 =>
                    un_i r1049 fun x1050 r1051 =>
                    un_i r1051 fun x1052 r1053 =>
                    un_i r1053 fun x1054 r1055 =>
                    un_b r1055 fun x1056 r1057 =>
                    un_i r1057 fun x1058 r1059 =>
                    un_i r1059 fun x1060 r1061 =>
                    un_i r1061 fun x1062 r1063 =>
                    un_i r1063 fun x1064 r1065 =>
                    un_nil r1065 <|
                    chk (decide (Int.ofNat (List.length x1042) = Int.ofNat (List.length x1042)) && true && true) <|
                    some [.li (x1034), .li (x1036), .li (x1038), .lb (x1040), .li (x1042), .i (x1044), .b (x1046), .i (x1048), .i (x1050), .i (x1052), .i (x1054), .b (x1056), .i (x1058), .i (x1060), .i (x1062), .i (x1064), .b (true)]))
                (one (maxI size 0) fun x1066 =>
                 one (minI x1066 65535) fun x1067 =>
                 one (wrapI .u64 x1067) fun x1068 =>
                 one (addI .u64 f_bytes x1068) fun x1069 =>
                 out (seq_Less f_newest x952) fun r1070 =>
                 un_b r1070 fun x1071 r1072 =>
                 un_nil r1072 <|
                 br (x1071)
                   (chk (decide (Int.ofNat (List.length f_closed) = Int.ofNat (List.length f_closed)) && true && true) <|
                    out (feed_old (mputK f_got_k x952) (mputV f_got_k f_got_v x952 x955) f_lost_k f_lost_v f_closed f_r f_any x955 f_first x952 f_count f_event f_eventAt f_eventN x1069 f_since) fun r1073 =>
                    un_li r1073 fun x1074 r1075 =>
                    un_li r1075 fun x1076 r1077 =>
                    un_li r1077 fun x1078 r1079 =>
                    un_lb r1079 fun x1080 r1081 =>
                    un_li r1081 fun x1082 r1083 =>
                    un_i r1083 fun x1084 r1085 =>
                    un_b r1085 fun x1086 r1087 =>
                    un_i r1087 fun x1088 r1089 =>
                    un_i r1089 fun x1090 r1091 =>
                    un_i r1091 fun x1092 r1093 =>
                    un_i r1093 fun x1094 r1095 =>
                    un_b r1095 fun x1096 r1097 =>
                    un_i r1097 fun x1098 r1099 =>
                    un_i r1099 fun x1100 r1101 =>
                    un_i r1101 fun x1102 r1103 =>
                    un_i r1103 fun x1104 r1105 =>
                    un_nil r1105 <|
                    chk (decide (Int.ofNat (List.length x1082) = Int.ofNat (List.length x1082)) && true && true) <|
                    out (feed_look x1074 x1076 x1078 x1080 x1082 x1084 x1086 x1088 x1090 x1092 x1094 x1096 x1098 x1100 x1102 x1104) fun r1106 =>
                    un_li r1106 fun x1107 r1108 =>
                    un_li r1108 fun x1109 r1110 =>
                    un_li r1110 fun x1111 r1112 =>
                    un_lb r1112 fun x1113 r1114 =>
                    un_li r1114 fun x1115 r1116 =>
                    un_i r1116 fun x1117 r1118 =>
                    un_b r1118 fun x1119 r1120 =>
                    un_i r1120 fun x1121 r1122 =>
                    un_i r1122 fun x1123 r1124 =>
                    un_i r1124 fun x1125 r1126 =>
                    un_i r1126 fun x1127 r1128 =>
                    un_b r1128 fun x1129 r1130 =>
                    un_i r1130 fun x1131 r1132 =>
                    un_i r1132 fun x1133 r1134 =>
                    un_i r1134 fun x1135 r1136 =>
                    un_i r1136 fun x1137 r1138 =>
                    un_nil r1138 <|
                    chk (decide (Int.ofNat (List.length x1115) = Int.ofNat (List.length x1115)) && true && true) <|
                    some [.li (x1107), .li (x1109), .li (x1111), .lb (x1113), .li (x1115), .i (x1117), .b (x1119), .i (x1121), .i (x1123), .i (x1125), .i (x1127), .b (x1129), .i (x1131), .i (x1133), .i (x1135), .i (x1137), .b (true)])
                   (chk (decide (Int.ofNat (List.length f_closed) = Int.ofNat (List.length f_closed)) && true && true) <|
                    out (feed_look (mputK f_got_k x952) (mputV f_got_k f_got_v x952 x955) f_lost_k f_lost_v f_closed f_r f_any x955 f_first f_newest f_count f_event f_eventAt f_eventN x1069 f_since) fun r1139 =>
                    un_li r1139 fun x1140 r1141 =>
                    un_li r1141 fun x1142 r1143 =>
                    un_li r1143 fun x1144 r1145 =>
                    un_lb r1145 fun x1146 r1147 =>
                    un_li r1147 fun x1148 r1149 =>
                    un_i r1149 fun x1150 r1151 =>
                    un_b r1151 fun x1152 r1153 =>
                    un_i r1153 fun x1154 r1155 =>
                    un_i r1155 fun x1156 r1157 =>
                    un_i r1157 fun x1158 r1159 =>
                    un_i r1159 fun x1160 r1161 =>
                    un_b r1161 fun x1162 r1163 =>
                    un_i r1163 fun x1164 r1165 =>
                    un_i r1165 fun x1166 r1167 =>
                    un_i r1167 fun x1168 r1169 =>
                    un_i r1169 fun x1170 r1171 =>
                    un_nil r1171 <|
                    chk (decide (Int.ofNat (List.length x1148) = Int.ofNat (List.length x1148)) && true && true) <|
                    some [.li (x1140), .li (x1142), .li (x1144), .lb (x1146), .li (x1148), .i (x1150), .b (x1152), .i (x1154), .i (x1156), .i (x1158), .i (x1160), .b (x1162), .i (x1164), .i (x1166), .i (x1168), .i (x1170), .b (true)]))))
          (br (!f_any)
             (one (maxI size 0) fun x1172 =>
              one (minI x1172 65535) fun x1173 =>
              one (wrapI .u64 x1173) fun x1174 =>
              one (addI .u64 f_bytes x1174) fun x1175 =>
              out (seq_Less x952 x952) fun r1176 =>
              un_b r1176 fun x1177 r1178 =>
              un_nil r1178 <|
              br (x1177)
                (chk (decide (Int.ofNat (List.length f_closed) = Int.ofNat (List.length f_closed)) && true && true) <|
                 out (feed_old (mputK f_got_k x952) (mputV f_got_k f_got_v x952 x955) f_lost_k f_lost_v f_closed f_r true x955 x952 x952 f_count f_event f_eventAt f_eventN x1175 x955) fun r1179 =>
                 un_li r1179 fun x1180 r1181 =>
                 un_li r1181 fun x1182 r1183 =>
                 un_li r1183 fun x1184 r1185 =>
                 un_lb r1185 fun x1186 r1187 =>
                 un_li r1187 fun x1188 r1189 =>
                 un_i r1189 fun x1190 r1191 =>
                 un_b r1191 fun x1192 r1193 =>
                 un_i r1193 fun x1194 r1195 =>
                 un_i r1195 fun x1196 r1197 =>
                 un_i r1197 fun x1198 r1199 =>
                 un_i r1199 fun x1200 r1201 =>
                 un_b r1201 fun x1202 r1203 =>
                 un_i r1203 fun x1204 r1205 =>
                 un_i r1205 fun x1206 r1207 =>
                 un_i r1207 fun x1208 r1209 =>
                 un_i r1209 fun x1210 r1211 =>
                 un_nil r1211 <|
                 chk (decide (Int.ofNat (List.length x1188) = Int.ofNat (List.length x1188)) && true && true) <|
                 out (feed_look x1180 x1182 x1184 x1186 x1188 x1190 x1192 x1194 x1196 x1198 x1200 x1202 x1204 x1206 x1208 x1210) fun r1212 =>
                 un_li r1212 fun x1213 r1214 =>
                 un_li r1214 fun x1215 r1216 =>
                 un_li r1216 fun x1217 r1218 =>
                 un_lb r1218 fun x1219 r1220 =>
                 un_li r1220 fun x1221 r1222 =>
                 un_i r1222 fun x1223 r1224 =>
                 un_b r1224 fun x1225 r1226 =>
                 un_i r1226 fun x1227 r1228 =>
                 un_i r1228 fun x1229 r1230 =>
                 un_i r1230 fun x1231 r1232 =>
                 un_i r1232 fun x1233 r1234 =>
                 un_b r1234 fun x1235 r1236 =>
                 un_i r1236 fun x1237 r1238 =>
                 un_i r1238 fun x1239 r1240 =>
                 un_i r1240 fun x1241 r1242 =>
                 un_i r1242 fun x1243 r1244 =>
                 un_nil r1244 <|
                 chk (decide (Int.ofNat (List.length x1221) = Int.ofNat (List.length x1221)) && true && true) <|
                 some [.li (x1213), .li (x1215), .li (x1217), .lb (x1219), .li (x1221), .i (x1223), .b (x1225), .i (x1227), .i (x1229), .i (x1231), .i (x1233), .b (x1235), .i (x1237), .i (x1239), .i (x1241), .i (x1243), .b (true)])
                (chk (decide (Int.ofNat (List.length f_closed) = Int.ofNat (List.length f_closed)) && true && true) <|
                 out (feed_look (mputK f_got_k x952) (mputV f_got_k f_got_v x952 x955) f_lost_k f_lost_v f_closed f_r true x955 x952 x952 f_count f_event f_eventAt f_eventN x1175 x955) fun r1245 =>
                 un_li r1245 fun x1246 r1247 =>
                 un_li r1247 fun x1248 r1249 =>
                 un_li r1249 fun x1250 r1251 =>
                 un_lb r1251 fun x1252 r1253 =>
                 un_li r1253 fun x1254 r1255 =>
                 un_i r1255 fun x1256 r1257 =>
                 un_b r1257 fun x1258 r1259 =>
                 un_i r1259 fun x1260 r1261 =>
                 un_i r1261 fun x1262 r1263 =>
                 un_i r1263 fun x1264 r1265 =>
                 un_i r1265 fun x1266 r1267 =>
                 un_b r1267 fun x1268 r1269 =>
                 un_i r1269 fun x1270 r1271 =>
                 un_i r1271 fun x1272 r1273 =>
                 un_i r1273 fun x1274 r1275 =>
                 un_i r1275 fun x1276 r1277 =>
                 un_nil r1277 <|
                 chk (decide (Int.ofNat (List.length x1254) = Int.ofNat (List.length x1254)) && true && true) <|
                 some [.li (x1246), .li (x1248), .li (x1250), .lb (x1252), .li (x1254), .i (x1256), .b (x1258), .i (x1260), .i (x1262), .i (x1264), .i (x1266), .b (x1268), .i (x1270), .i (x1272), .i (x1274), .i (x1276), .b (true)]))
             (one (maxI size 0) fun x1278 =>
              one (minI x1278 65535) fun x1279 =>
              one (wrapI .u64 x1279) fun x1280 =>
              one (addI .u64 f_bytes x1280) fun x1281 =>
              out (seq_Less f_newest x952) fun r1282 =>
              un_b r1282 fun x1283 r1284 =>
              un_nil r1284 <|
              br (x1283)
                (chk (decide (Int.ofNat (List.length f_closed) = Int.ofNat (List.length f_closed)) && true && true) <|
                 out (feed_old (mputK f_got_k x952) (mputV f_got_k f_got_v x952 x955) f_lost_k f_lost_v f_closed f_r f_any x955 f_first x952 f_count f_event f_eventAt f_eventN x1281 f_since) fun r1285 =>
                 un_li r1285 fun x1286 r1287 =>
                 un_li r1287 fun x1288 r1289 =>
                 un_li r1289 fun x1290 r1291 =>
                 un_lb r1291 fun x1292 r1293 =>
                 un_li r1293 fun x1294 r1295 =>
                 un_i r1295 fun x1296 r1297 =>
                 un_b r1297 fun x1298 r1299 =>
                 un_i r1299 fun x1300 r1301 =>
                 un_i r1301 fun x1302 r1303 =>
                 un_i r1303 fun x1304 r1305 =>
                 un_i r1305 fun x1306 r1307 =>
                 un_b r1307 fun x1308 r1309 =>
                 un_i r1309 fun x1310 r1311 =>
                 un_i r1311 fun x1312 r1313 =>
                 un_i r1313 fun x1314 r1315 =>
                 un_i r1315 fun x1316 r1317 =>
                 un_nil r1317 <|
                 chk (decide (Int.ofNat (List.length x1294) = Int.ofNat (List.length x1294)) && true && true) <|
                 out (feed_look x1286 x1288 x1290 x1292 x1294 x1296 x1298 x1300 x1302 x1304 x1306 x1308 x1310 x1312 x1314 x1316) fun r1318 =>
                 un_li r1318 fun x1319 r1320 =>
                 un_li r1320 fun x1321 r1322 =>
                 un_li r1322 fun x1323 r1324 =>
                 un_lb r1324 fun x1325 r1326 =>
                 un_li r1326 fun x1327 r1328 =>
                 un_i r1328 fun x1329 r1330 =>
                 un_b r1330 fun x1331 r1332 =>
                 un_i r1332 fun x1333 r1334 =>
                 un_i r1334 fun x1335 r1336 =>
                 un_i r1336 fun x1337 r1338 =>
                 un_i r1338 fun x1339 r1340 =>
                 un_b r1340 fun x1341 r1342 =>
                 un_i r1342 fun x1343 r1344 =>
                 un_i r1344 fun x1345 r1346 =>
                 un_i r1346 fun x1347 r1348 =>
                 un_i r1348 fun x1349 r1350 =>
                 un_nil r1350 <|
                 chk (decide (Int.ofNat (List.length x1327) = Int.ofNat (List.length x1327)) && true && true) <|
                 some [.li (x1319), .li (x1321), .li (x1323), .lb (x1325), .li (x1327), .i (x1329), .b (x1331), .i (x1333), .i (x1335), .i (x1337), .i (x1339), .b (x1341), .i (x1343), .i (x1345), .i (x1347), .i (x1349), .b (true)])
                (chk (decide (Int.ofNat (List.length f_closed) = Int.ofNat (List.length f_closed)) && true && true) <|
                 out (feed_look (mputK f_got_k x952) (mputV f_got_k f_got_v x952 x955) f_lost_k f_lost_v f_closed f_r f_any x955 f_first f_newest f_count f_event f_eventAt f_eventN x1281 f_since) fun r1351 =>
                 un_li r1351 fun x1352 r1353 =>
                 un_li r1353 fun x1354 r1355 =>
                 un_li r1355 fun x1356 r1357 =>
                 un_lb r1357 fun x1358 r1359 =>
                 un_li r1359 fun x1360 r1361 =>
                 un_i r1361 fun x1362 r1363 =>
                 un_b r1363 fun x1364 r1365 =>
                 un_i r1365 fun x1366 r1367 =>
                 un_i r1367 fun x1368 r1369 =>
                 un_i r1369 fun x1370 r1371 =>
                 un_i r1371 fun x1372 r1373 =>
                 un_b r1373 fun x1374 r1375 =>
                 un_i r1375 fun x1376 r1377 =>
                 un_i r1377 fun x1378 r1379 =>
                 un_i r1379 fun x1380 r1381 =>
                 un_i r1381 fun x1382 r1383 =>
                 un_nil r1383 <|
                 chk (decide (Int.ofNat (List.length x1360) = Int.ofNat (List.length x1360)) && true && true) <|
                 some [.li (x1352), .li (x1354), .li (x1356), .lb (x1358), .li (x1360), .i (x1362), .b (x1364), .i (x1366), .i (x1368), .i (x1370), .i (x1372), .b (x1374), .i (x1376), .i (x1378), .i (x1380), .i (x1382), .b (true)])))))
end Go.Sx.T

