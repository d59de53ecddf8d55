import Derived.Test.YtngjglbakgdgaaaGreatDoorYnWinSpec
import Derived.Test.YtngjglbakgdgaaaGreatDoorYnTfrcSpec
import Derived.Test.YtngjglbakgdgaaaGreatDoorYPaceSpec
set_option linter.all false
namespace Go.Sx.T
open Go Go.Sx
def cw_Sent (c_w_cwnd : Int) (c_w_slow : Int) (c_w_pipe : Int) (c_w_count : Int) (c_w_halved_n : Int) (c_w_halved_is : Bool) (c_w_last_n : Int) (c_w_last_is : Bool) (c_w_runs : Bool) (c_w_due : Int) (c_w_rtt_any : Bool) (c_w_rtt_smooth : Int) (c_w_rtt_spread : Int) (c_w_rtt_rto : Int) (now : Int) (s : Int) (t3 : Int) : Option (List Leaf) :=
  out (win_Sent c_w_cwnd c_w_slow c_w_pipe c_w_count c_w_halved_n c_w_halved_is c_w_last_n c_w_last_is c_w_runs c_w_due c_w_rtt_any c_w_rtt_smooth c_w_rtt_spread c_w_rtt_rto s now) fun r1195 =>
  un_i r1195 fun x1196 r1197 =>
  un_i r1197 fun x1198 r1199 =>
  un_i r1199 fun x1200 r1201 =>
  un_i r1201 fun x1202 r1203 =>
  un_i r1203 fun x1204 r1205 =>
  un_b r1205 fun x1206 r1207 =>
  un_i r1207 fun x1208 r1209 =>
  un_b r1209 fun x1210 r1211 =>
  un_b r1211 fun x1212 r1213 =>
  un_i r1213 fun x1214 r1215 =>
  un_b r1215 fun x1216 r1217 =>
  un_i r1217 fun x1218 r1219 =>
  un_i r1219 fun x1220 r1221 =>
  un_i r1221 fun x1222 r1223 =>
  un_b r1223 fun x1224 r1225 =>
  un_nil r1225 <|
  some [.i (x1196), .i (x1198), .i (x1200), .i (x1202), .i (x1204), .b (x1206), .i (x1208), .b (x1210), .b (x1212), .i (x1214), .b (x1216), .i (x1218), .i (x1220), .i (x1222), .b (x1224)]
def cr_turns (c_t_set_l0 : List Int) (c_t_set_l1 : List Int) (c_last : Int) (c_t_s : Int) (c_t_x : Int) (c_t_loss : Int) (c_t_rtt : Int) (c_t_heard : Bool) (c_t_doubled : Int) (c_t_began : Bool) (c_t_started : Bool) (c_t_due : Int) (c_p_s : Int) (c_p_tick : Int) (c_p_has : Int) (c_p_rate : Int) (c_p_now : Int) (now : Int) : Option (List Leaf) :=
  chk (decide (Int.ofNat (List.length c_t_set_l0) = Int.ofNat (List.length c_t_set_l0)) && true && true) <|
  out (tfrc_Rate c_t_set_l0 c_t_set_l1 c_t_s c_t_x c_t_loss c_t_rtt c_t_heard c_t_doubled c_t_began c_t_started c_t_due) fun r1226 =>
  un_i r1226 fun x1227 r1228 =>
  un_nil r1228 <|
  br (x1227 != c_last)
    (out (pace_Rate c_p_s c_p_tick c_p_has c_p_rate c_p_now now x1227) fun r1229 =>
     un_i r1229 fun x1230 r1231 =>
     un_i r1231 fun x1232 r1233 =>
     un_i r1233 fun x1234 r1235 =>
     un_i r1235 fun x1236 r1237 =>
     un_i r1237 fun x1238 r1239 =>
     un_nil r1239 <|
     chk (decide (Int.ofNat (List.length c_t_set_l0) = Int.ofNat (List.length c_t_set_l0)) && true && true) <|
     some [.li (c_t_set_l0), .li (c_t_set_l1), .i (x1227), .i (c_t_s), .i (c_t_x), .i (c_t_loss), .i (c_t_rtt), .b (c_t_heard), .i (c_t_doubled), .b (c_t_began), .b (c_t_started), .i (c_t_due), .i (x1230), .i (x1232), .i (x1234), .i (x1236), .i (x1238)])
    (chk (decide (Int.ofNat (List.length c_t_set_l0) = Int.ofNat (List.length c_t_set_l0)) && true && true) <|
     some [.li (c_t_set_l0), .li (c_t_set_l1), .i (c_last), .i (c_t_s), .i (c_t_x), .i (c_t_loss), .i (c_t_rtt), .b (c_t_heard), .i (c_t_doubled), .b (c_t_began), .b (c_t_started), .i (c_t_due), .i (c_p_s), .i (c_p_tick), .i (c_p_has), .i (c_p_rate), .i (c_p_now)])
def cr_Sent (c_t_set_l0 : List Int) (c_t_set_l1 : List Int) (c_last : Int) (c_t_s : Int) (c_t_x : Int) (c_t_loss : Int) (c_t_rtt : Int) (c_t_heard : Bool) (c_t_doubled : Int) (c_t_began : Bool) (c_t_started : Bool) (c_t_due : Int) (c_p_s : Int) (c_p_tick : Int) (c_p_has : Int) (c_p_rate : Int) (c_p_now : Int) (now : Int) (t2 : Int) (n2 : Int) : Option (List Leaf) :=
  chk (decide (Int.ofNat (List.length c_t_set_l0) = Int.ofNat (List.length c_t_set_l0)) && true && true) <|
  out (cr_turns c_t_set_l0 c_t_set_l1 c_last c_t_s c_t_x c_t_loss c_t_rtt c_t_heard c_t_doubled c_t_began c_t_started c_t_due c_p_s c_p_tick c_p_has c_p_rate c_p_now now) fun r1240 =>
  un_li r1240 fun x1241 r1242 =>
  un_li r1242 fun x1243 r1244 =>
  un_i r1244 fun x1245 r1246 =>
  un_i r1246 fun x1247 r1248 =>
  un_i r1248 fun x1249 r1250 =>
  un_i r1250 fun x1251 r1252 =>
  un_i r1252 fun x1253 r1254 =>
  un_b r1254 fun x1255 r1256 =>
  un_i r1256 fun x1257 r1258 =>
  un_b r1258 fun x1259 r1260 =>
  un_b r1260 fun x1261 r1262 =>
  un_i r1262 fun x1263 r1264 =>
  un_i r1264 fun x1265 r1266 =>
  un_i r1266 fun x1267 r1268 =>
  un_i r1268 fun x1269 r1270 =>
  un_i r1270 fun x1271 r1272 =>
  un_i r1272 fun x1273 r1274 =>
  un_nil r1274 <|
  chk (decide (Int.ofNat (List.length x1241) = Int.ofNat (List.length x1241)) && true && true) <|
  out (tfrc_Start x1241 x1243 x1247 x1249 x1251 x1253 x1255 x1257 x1259 x1261 x1263 now) fun r1275 =>
  un_li r1275 fun x1276 r1277 =>
  un_li r1277 fun x1278 r1279 =>
  un_i r1279 fun x1280 r1281 =>
  un_i r1281 fun x1282 r1283 =>
  un_i r1283 fun x1284 r1285 =>
  un_i r1285 fun x1286 r1287 =>
  un_b r1287 fun x1288 r1289 =>
  un_i r1289 fun x1290 r1291 =>
  un_b r1291 fun x1292 r1293 =>
  un_b r1293 fun x1294 r1295 =>
  un_i r1295 fun x1296 r1297 =>
  un_nil r1297 <|
  out (pace_Take x1265 x1267 x1269 x1271 x1273 now n2) fun r1298 =>
  un_i r1298 fun x1299 r1300 =>
  un_i r1300 fun x1301 r1302 =>
  un_i r1302 fun x1303 r1304 =>
  un_i r1304 fun x1305 r1306 =>
  un_i r1306 fun x1307 r1308 =>
  un_b r1308 fun x1309 r1310 =>
  un_nil r1310 <|
  chk (decide (Int.ofNat (List.length x1276) = Int.ofNat (List.length x1276)) && true && true) <|
  some [.li (x1276), .li (x1278), .i (x1245), .i (x1280), .i (x1282), .i (x1284), .i (x1286), .b (x1288), .i (x1290), .b (x1292), .b (x1294), .i (x1296), .i (x1299), .i (x1301), .i (x1303), .i (x1305), .i (x1307), .b (x1309)]
def cr_Hear (c_t_set_l0 : List Int) (c_t_set_l1 : List Int) (h_Got : List Int) (h_Late : List Int) (h_Lost : List Int) (c_last : Int) (c_t_s : Int) (c_t_x : Int) (c_t_loss : Int) (c_t_rtt : Int) (c_t_heard : Bool) (c_t_doubled : Int) (c_t_began : Bool) (c_t_started : Bool) (c_t_due : Int) (c_p_s : Int) (c_p_tick : Int) (c_p_has : Int) (c_p_rate : Int) (c_p_now : Int) (now : Int) (h_Marks : Int) (h_Rtt : Int) (x : Int) (p : Int) : Option (List Leaf) :=
  chk (decide (Int.ofNat (List.length c_t_set_l0) = Int.ofNat (List.length c_t_set_l0)) && true && true) <|
  out (cr_turns c_t_set_l0 c_t_set_l1 c_last c_t_s c_t_x c_t_loss c_t_rtt c_t_heard c_t_doubled c_t_began c_t_started c_t_due c_p_s c_p_tick c_p_has c_p_rate c_p_now now) fun r1311 =>
  un_li r1311 fun x1312 r1313 =>
  un_li r1313 fun x1314 r1315 =>
  un_i r1315 fun x1316 r1317 =>
  un_i r1317 fun x1318 r1319 =>
  un_i r1319 fun x1320 r1321 =>
  un_i r1321 fun x1322 r1323 =>
  un_i r1323 fun x1324 r1325 =>
  un_b r1325 fun x1326 r1327 =>
  un_i r1327 fun x1328 r1329 =>
  un_b r1329 fun x1330 r1331 =>
  un_b r1331 fun x1332 r1333 =>
  un_i r1333 fun x1334 r1335 =>
  un_i r1335 fun x1336 r1337 =>
  un_i r1337 fun x1338 r1339 =>
  un_i r1339 fun x1340 r1341 =>
  un_i r1341 fun x1342 r1343 =>
  un_i r1343 fun x1344 r1345 =>
  un_nil r1345 <|
  br (decide (h_Rtt ≥ 0))
    (chk (decide (Int.ofNat (List.length x1312) = Int.ofNat (List.length x1312)) && true && true) <|
     out (tfrc_Hear x1312 x1314 x1318 x1320 x1322 x1324 x1326 x1328 x1330 x1332 x1334 now h_Rtt x p false) fun r1346 =>
     un_li r1346 fun x1347 r1348 =>
     un_li r1348 fun x1349 r1350 =>
     un_i r1350 fun x1351 r1352 =>
     un_i r1352 fun x1353 r1354 =>
     un_i r1354 fun x1355 r1356 =>
     un_i r1356 fun x1357 r1358 =>
     un_b r1358 fun x1359 r1360 =>
     un_i r1360 fun x1361 r1362 =>
     un_b r1362 fun x1363 r1364 =>
     un_b r1364 fun x1365 r1366 =>
     un_i r1366 fun x1367 r1368 =>
     un_nil r1368 <|
     chk (decide (Int.ofNat (List.length x1347) = Int.ofNat (List.length x1347)) && true && true) <|
     out (cr_turns x1347 x1349 x1316 x1351 x1353 x1355 x1357 x1359 x1361 x1363 x1365 x1367 x1336 x1338 x1340 x1342 x1344 now) fun r1369 =>
     un_li r1369 fun x1370 r1371 =>
     un_li r1371 fun x1372 r1373 =>
     un_i r1373 fun x1374 r1375 =>
     un_i r1375 fun x1376 r1377 =>
     un_i r1377 fun x1378 r1379 =>
     un_i r1379 fun x1380 r1381 =>
     un_i r1381 fun x1382 r1383 =>
     un_b r1383 fun x1384 r1385 =>
     un_i r1385 fun x1386 r1387 =>
     un_b r1387 fun x1388 r1389 =>
     un_b r1389 fun x1390 r1391 =>
     un_i r1391 fun x1392 r1393 =>
     un_i r1393 fun x1394 r1395 =>
     un_i r1395 fun x1396 r1397 =>
     un_i r1397 fun x1398 r1399 =>
     un_i r1399 fun x1400 r1401 =>
     un_i r1401 fun x1402 r1403 =>
     un_nil r1403 <|
     chk (decide (Int.ofNat (List.length x1370) = Int.ofNat (List.length x1370)) && true && true) <|
     some [.li (x1370), .li (x1372), .i (x1374), .i (x1376), .i (x1378), .i (x1380), .i (x1382), .b (x1384), .i (x1386), .b (x1388), .b (x1390), .i (x1392), .i (x1394), .i (x1396), .i (x1398), .i (x1400), .i (x1402)])
    (chk (decide (Int.ofNat (List.length x1312) = Int.ofNat (List.length x1312)) && true && true) <|
     some [.li (x1312), .li (x1314), .i (x1316), .i (x1318), .i (x1320), .i (x1322), .i (x1324), .b (x1326), .i (x1328), .b (x1330), .b (x1332), .i (x1334), .i (x1336), .i (x1338), .i (x1340), .i (x1342), .i (x1344)])
end Go.Sx.T

