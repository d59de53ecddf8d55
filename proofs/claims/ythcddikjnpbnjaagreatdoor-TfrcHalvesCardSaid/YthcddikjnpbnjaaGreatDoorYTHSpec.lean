import Derived.Test.YthcddikjnpbnjaaGreatDoorYTfrcSpec
set_option linter.all false
namespace Go.Sx.T
open Go Go.Sx
def TfrcHalves_10_B  {α : Type} (kx : Nat → List Leaf → Option α) (kr : List Leaf → Option α) (again : List Int → List Int → Int → Int → Int → Int → Bool → Int → Bool → Bool → Int → Int → Int → Int → Option α) (t_set_l0 : List Int) (t_set_l1 : List Int) (t_s : Int) (t_x : Int) (t_loss : Int) (t_rtt : Int) (t_heard : Bool) (t_doubled : Int) (t_began : Bool) (t_started : Bool) (t_due : Int) (size : Int) (i : Int) (now : Int) : Option α :=
  br (decide (i < 70))
    (chk (decide (Int.ofNat (List.length t_set_l0) = Int.ofNat (List.length t_set_l0)) && true && true) <|
     out (tfrc_Rate t_set_l0 t_set_l1 t_s t_x t_loss t_rtt t_heard t_doubled t_began t_started t_due) fun r1174 =>
     un_i r1174 fun x1175 r1176 =>
     un_nil r1176 <|
     chk (decide (Int.ofNat (List.length t_set_l0) = Int.ofNat (List.length t_set_l0)) && true && true) <|
     out (tfrc_Due t_set_l0 t_set_l1 t_s t_x t_loss t_rtt t_heard t_doubled t_began t_started t_due) fun r1177 =>
     un_i r1177 fun x1178 r1179 =>
     un_b r1179 fun x1180 r1181 =>
     un_nil r1181 <|
     br (!x1180)
       (chk (decide (Int.ofNat (List.length t_set_l0) = Int.ofNat (List.length t_set_l0)) && true && true) <|
        kx 0 [.li (t_set_l0), .li (t_set_l1), .i (t_s), .i (t_x), .i (t_loss), .i (t_rtt), .b (t_heard), .i (t_doubled), .b (t_began), .b (t_started), .i (t_due), .i (size)])
       (br (decide (x1178 ≤ now))
          (kr [.b (false)])
          (one (subI .i64 x1178 1) fun x1182 =>
           chk (decide (Int.ofNat (List.length t_set_l0) = Int.ofNat (List.length t_set_l0)) && true && true) <|
           out (tfrc_Fire t_set_l0 t_set_l1 t_s t_x t_loss t_rtt t_heard t_doubled t_began t_started t_due x1182) fun r1183 =>
           un_li r1183 fun x1184 r1185 =>
           un_li r1185 fun x1186 r1187 =>
           un_i r1187 fun x1188 r1189 =>
           un_i r1189 fun x1190 r1191 =>
           un_i r1191 fun x1192 r1193 =>
           un_i r1193 fun x1194 r1195 =>
           un_b r1195 fun x1196 r1197 =>
           un_i r1197 fun x1198 r1199 =>
           un_b r1199 fun x1200 r1201 =>
           un_b r1201 fun x1202 r1203 =>
           un_i r1203 fun x1204 r1205 =>
           un_b r1205 fun x1206 r1207 =>
           un_nil r1207 <|
           br (x1206)
             (kr [.b (false)])
             (chk (decide (Int.ofNat (List.length x1184) = Int.ofNat (List.length x1184)) && true && true) <|
              out (tfrc_Fire x1184 x1186 x1188 x1190 x1192 x1194 x1196 x1198 x1200 x1202 x1204 x1178) fun r1208 =>
              un_li r1208 fun x1209 r1210 =>
              un_li r1210 fun x1211 r1212 =>
              un_i r1212 fun x1213 r1214 =>
              un_i r1214 fun x1215 r1216 =>
              un_i r1216 fun x1217 r1218 =>
              un_i r1218 fun x1219 r1220 =>
              un_b r1220 fun x1221 r1222 =>
              un_i r1222 fun x1223 r1224 =>
              un_b r1224 fun x1225 r1226 =>
              un_b r1226 fun x1227 r1228 =>
              un_i r1228 fun x1229 r1230 =>
              un_b r1230 fun x1231 r1232 =>
              un_nil r1232 <|
              br (!x1231)
                (kr [.b (false)])
                (chk (decide (Int.ofNat (List.length x1209) = Int.ofNat (List.length x1209)) && true && true) <|
                 out (tfrc_Rate x1209 x1211 x1213 x1215 x1217 x1219 x1221 x1223 x1225 x1227 x1229) fun r1233 =>
                 un_i r1233 fun x1234 r1235 =>
                 un_nil r1235 <|
                 one (quoI .u64 x1175 2) fun x1236 =>
                 one (wrapI .u64 size) fun x1237 =>
                 one (maxI x1236 x1237) fun x1238 =>
                 br (x1234 != x1238)
                   (kr [.b (false)])
                   (one (addI .i64 i 1) fun x1239 =>
                    chk (decide (Int.ofNat (List.length x1209) = Int.ofNat (List.length x1209)) && true && true) <|
                    again (x1209) (x1211) (x1213) (x1215) (x1217) (x1219) (x1221) (x1223) (x1225) (x1227) (x1229) (size) (x1239) (x1178)))))))
    (chk (decide (Int.ofNat (List.length t_set_l0) = Int.ofNat (List.length t_set_l0)) && true && true) <|
     kx 0 [.li (t_set_l0), .li (t_set_l1), .i (t_s), .i (t_x), .i (t_loss), .i (t_rtt), .b (t_heard), .i (t_doubled), .b (t_began), .b (t_started), .i (t_due), .i (size)])
def TfrcHalves_10_L {α : Type} (kx : Nat → List Leaf → Option α) (kr : List Leaf → Option α) : Nat → List Int → List Int → Int → Int → Int → Int → Bool → Int → Bool → Bool → Int → Int → Int → Int → Option α
  | 0, _, _, _, _, _, _, _, _, _, _, _, _, _, _ => none
  | n + 1, t_set_l0, t_set_l1, t_s, t_x, t_loss, t_rtt, t_heard, t_doubled, t_began, t_started, t_due, size, i, now => TfrcHalves_10_B  kx kr (TfrcHalves_10_L kx kr n) t_set_l0 t_set_l1 t_s t_x t_loss t_rtt t_heard t_doubled t_began t_started t_due size i now
def TfrcHalves_10_F (L10 : ({β : Type} → (Nat → List Leaf → Option β) → (List Leaf → Option β) → Nat → List Int → List Int → Int → Int → Int → Int → Bool → Int → Bool → Bool → Int → Int → Int → Int → Option β)) {α : Type} (n : Nat) (ls : List Leaf) (kx : Nat → List Leaf → Option α) (kr : List Leaf → Option α) : Option α := un_li ls fun t_set_l0 rr => un_li rr fun t_set_l1 rr => un_i rr fun t_s rr => un_i rr fun t_x rr => un_i rr fun t_loss rr => un_i rr fun t_rtt rr => un_b rr fun t_heard rr => un_i rr fun t_doubled rr => un_b rr fun t_began rr => un_b rr fun t_started rr => un_i rr fun t_due rr => un_i rr fun size rr => un_i rr fun i rr => un_i rr fun now rr => un_nil rr (L10 kx kr n t_set_l0 t_set_l1 t_s t_x t_loss t_rtt t_heard t_doubled t_began t_started t_due size i now)
def TfrcHalves_d (L10 : ({β : Type} → (Nat → List Leaf → Option β) → (List Leaf → Option β) → Nat → List Int → List Int → Int → Int → Int → Int → Bool → Int → Bool → Bool → Int → Int → Int → Int → Option β)) (size : Int) (sample : Int) (x : Int) (p : Int) : Option (List Leaf) :=
  one (remI .i64 size 1400) fun x1240 =>
  one (addI .i64 x1240 1400) fun x1241 =>
  one (remI .i64 x1241 1400) fun x1242 =>
  one (addI .i64 1 x1242) fun x1243 =>
  out (tfrc_New x1243) fun r1244 =>
  un_li r1244 fun x1245 r1246 =>
  un_li r1246 fun x1247 r1248 =>
  un_i r1248 fun x1249 r1250 =>
  un_i r1250 fun x1251 r1252 =>
  un_i r1252 fun x1253 r1254 =>
  un_i r1254 fun x1255 r1256 =>
  un_b r1256 fun x1257 r1258 =>
  un_i r1258 fun x1259 r1260 =>
  un_b r1260 fun x1261 r1262 =>
  un_b r1262 fun x1263 r1264 =>
  un_i r1264 fun x1265 r1266 =>
  un_nil r1266 <|
  chk (decide (Int.ofNat (List.length x1245) = Int.ofNat (List.length x1245)) && true && true) <|
  out (tfrc_Start x1245 x1247 x1249 x1251 x1253 x1255 x1257 x1259 x1261 x1263 x1265 0) fun r1267 =>
  un_li r1267 fun x1268 r1269 =>
  un_li r1269 fun x1270 r1271 =>
  un_i r1271 fun x1272 r1273 =>
  un_i r1273 fun x1274 r1275 =>
  un_i r1275 fun x1276 r1277 =>
  un_i r1277 fun x1278 r1279 =>
  un_b r1279 fun x1280 r1281 =>
  un_i r1281 fun x1282 r1283 =>
  un_b r1283 fun x1284 r1285 =>
  un_b r1285 fun x1286 r1287 =>
  un_i r1287 fun x1288 r1289 =>
  un_nil r1289 <|
  chk (decide (Int.ofNat (List.length x1268) = Int.ofNat (List.length x1268)) && true && true) <|
  out (tfrc_Hear x1268 x1270 x1272 x1274 x1276 x1278 x1280 x1282 x1284 x1286 x1288 1000 sample x p false) fun r1290 =>
  un_li r1290 fun x1291 r1292 =>
  un_li r1292 fun x1293 r1294 =>
  un_i r1294 fun x1295 r1296 =>
  un_i r1296 fun x1297 r1298 =>
  un_i r1298 fun x1299 r1300 =>
  un_i r1300 fun x1301 r1302 =>
  un_b r1302 fun x1303 r1304 =>
  un_i r1304 fun x1305 r1306 =>
  un_b r1306 fun x1307 r1308 =>
  un_b r1308 fun x1309 r1310 =>
  un_i r1310 fun x1311 r1312 =>
  un_nil r1312 <|
  chk (decide (Int.ofNat (List.length x1291) = Int.ofNat (List.length x1291)) && true && true) <|
  L10
    (fun i1313 r1314 =>
     br (Nat.beq 0 i1313)
       (un_li r1314 fun x1315 r1316 =>
        un_li r1316 fun x1317 r1318 =>
        un_i r1318 fun x1319 r1320 =>
        un_i r1320 fun x1321 r1322 =>
        un_i r1322 fun x1323 r1324 =>
        un_i r1324 fun x1325 r1326 =>
        un_b r1326 fun x1327 r1328 =>
        un_i r1328 fun x1329 r1330 =>
        un_b r1330 fun x1331 r1332 =>
        un_b r1332 fun x1333 r1334 =>
        un_i r1334 fun x1335 r1336 =>
        un_i r1336 fun x1337 r1338 =>
        un_nil r1338 <|
        chk (decide (Int.ofNat (List.length x1315) = Int.ofNat (List.length x1315)) && true && true) <|
        out (tfrc_Due x1315 x1317 x1319 x1321 x1323 x1325 x1327 x1329 x1331 x1333 x1335) fun r1339 =>
        un_i r1339 fun x1340 r1341 =>
        un_b r1341 fun x1342 r1343 =>
        un_nil r1343 <|
        chk (decide (Int.ofNat (List.length x1315) = Int.ofNat (List.length x1315)) && true && true) <|
        out (tfrc_Rate x1315 x1317 x1319 x1321 x1323 x1325 x1327 x1329 x1331 x1333 x1335) fun r1344 =>
        un_i r1344 fun x1345 r1346 =>
        un_nil r1346 <|
        one (wrapI .u64 x1337) fun x1347 =>
        br (x1345 == x1347)
          (br (!x1342)
             (chk (decide (Int.ofNat (List.length x1315) = Int.ofNat (List.length x1315)) && true && true) <|
              out (tfrc_Fire x1315 x1317 x1319 x1321 x1323 x1325 x1327 x1329 x1331 x1333 x1335 2305843009213693952) fun r1348 =>
              un_li r1348 fun x1349 r1350 =>
              un_li r1350 fun x1351 r1352 =>
              un_i r1352 fun x1353 r1354 =>
              un_i r1354 fun x1355 r1356 =>
              un_i r1356 fun x1357 r1358 =>
              un_i r1358 fun x1359 r1360 =>
              un_b r1360 fun x1361 r1362 =>
              un_i r1362 fun x1363 r1364 =>
              un_b r1364 fun x1365 r1366 =>
              un_b r1366 fun x1367 r1368 =>
              un_i r1368 fun x1369 r1370 =>
              un_b r1370 fun x1371 r1372 =>
              un_nil r1372 <|
              some [.b (!x1371)])
             (some [.b (false)]))
          (some [.b (false)]))
       (none))
    (fun r1373 =>
     un_b r1373 fun x1374 r1375 =>
     un_nil r1375 <|
     some [.b (x1374)])
    top (x1291) (x1293) (x1295) (x1297) (x1299) (x1301) (x1303) (x1305) (x1307) (x1309) (x1311) (x1243) (0) (1000)
def TfrcHalves (size : Int) (sample : Int) (x : Int) (p : Int) : Option (List Leaf) := TfrcHalves_d @TfrcHalves_10_L size sample x p
end Go.Sx.T

