import Derived.Test.YtdjnfdcoilgegaaGreatDoorYNegoSpec
import Derived.Test.YtdjnfdcoilgegaaGreatDoorYR18Spec
set_option linter.all false
namespace Go.Sx.T
open Go Go.Sx
def NegoBad_15_B  {α : Type} (kx : Nat → List Leaf → Option α) (kr : List Leaf → Option α) (again : List Int → List ByteArray → List Int → List ByteArray → List Int → List ByteArray → List Int → List ByteArray → List Int → List ByteArray → Bool → Int → ByteArray → ByteArray → Bool → Int → Bool → Option α) (n_want_k : List Int) (n_want_v : List ByteArray) (n_like_k : List Int) (n_like_v : List ByteArray) (n_mine_k : List Int) (n_mine_v : List ByteArray) (n_theirs_k : List Int) (n_theirs_v : List ByteArray) (n_due0 : List Int) (n_due1 : List ByteArray) (n_server : Bool) (i : Int) (w : ByteArray) (v : ByteArray) (has : Bool) (f : Int) (ok : Bool) : Option α :=
  one ((↑(ByteArray.size v) : Int)) fun x1232 =>
  br (decide (i < x1232))
    (br (has)
       (one (addI .i64 i 1) fun x1233 =>
        chk (decide (Int.ofNat (List.length n_due0) = Int.ofNat (List.length n_due0)) && true && true) <|
        again (n_want_k) (n_want_v) (n_like_k) (n_like_v) (n_mine_k) (n_mine_v) (n_theirs_k) (n_theirs_v) (n_due0) (n_due1) (n_server) (x1233) (w) (v) (true) (f) (ok))
       (chk (decide (0 ≤ i ∧ i < (↑(ByteArray.size v) : Int))) <|
        one (bt v i) fun x1234 =>
        chk (decide ((0 : Int) ≤ 0 ∧ 0 < (↑(ByteArray.size w) : Int))) <|
        one (bt w 0) fun x1235 =>
        one (addI .i64 i 1) fun x1236 =>
        chk (decide (Int.ofNat (List.length n_due0) = Int.ofNat (List.length n_due0)) && true && true) <|
        again (n_want_k) (n_want_v) (n_like_k) (n_like_v) (n_mine_k) (n_mine_v) (n_theirs_k) (n_theirs_v) (n_due0) (n_due1) (n_server) (x1236) (w) (v) (x1234 == x1235) (f) (ok)))
    (chk (decide (Int.ofNat (List.length n_due0) = Int.ofNat (List.length n_due0)) && true && true) <|
     kx 0 [.li (n_want_k), .ls (n_want_v), .li (n_like_k), .ls (n_like_v), .li (n_mine_k), .ls (n_mine_v), .li (n_theirs_k), .ls (n_theirs_v), .li (n_due0), .ls (n_due1), .b (n_server), .s (w), .i (f), .b (has), .b (ok)])
def NegoBad_15_L {α : Type} (kx : Nat → List Leaf → Option α) (kr : List Leaf → Option α) : Nat → List Int → List ByteArray → List Int → List ByteArray → List Int → List ByteArray → List Int → List ByteArray → List Int → List ByteArray → Bool → Int → ByteArray → ByteArray → Bool → Int → Bool → Option α
  | 0, _, _, _, _, _, _, _, _, _, _, _, _, _, _, _, _, _ => none
  | n + 1, n_want_k, n_want_v, n_like_k, n_like_v, n_mine_k, n_mine_v, n_theirs_k, n_theirs_v, n_due0, n_due1, n_server, i, w, v, has, f, ok => NegoBad_15_B  kx kr (NegoBad_15_L kx kr n) n_want_k n_want_v n_like_k n_like_v n_mine_k n_mine_v n_theirs_k n_theirs_v n_due0 n_due1 n_server i w v has f ok
def NegoBad_15_F (L15 : ({β : Type} → (Nat → List Leaf → Option β) → (List Leaf → Option β) → Nat → List Int → List ByteArray → List Int → List ByteArray → List Int → List ByteArray → List Int → List ByteArray → List Int → List ByteArray → Bool → Int → ByteArray → ByteArray → Bool → Int → Bool → Option β)) {α : Type} (n : Nat) (ls : List Leaf) (kx : Nat → List Leaf → Option α) (kr : List Leaf → Option α) : Option α := un_li ls fun n_want_k rr => un_ls rr fun n_want_v rr => un_li rr fun n_like_k rr => un_ls rr fun n_like_v rr => un_li rr fun n_mine_k rr => un_ls rr fun n_mine_v rr => un_li rr fun n_theirs_k rr => un_ls rr fun n_theirs_v rr => un_li rr fun n_due0 rr => un_ls rr fun n_due1 rr => un_b rr fun n_server rr => un_i rr fun i rr => un_s rr fun w rr => un_s rr fun v rr => un_b rr fun has rr => un_i rr fun f rr => un_b rr fun ok rr => un_nil rr (L15 kx kr n n_want_k n_want_v n_like_k n_like_v n_mine_k n_mine_v n_theirs_k n_theirs_v n_due0 n_due1 n_server i w v has f ok)
def NegoBad_d (L15 : ({β : Type} → (Nat → List Leaf → Option β) → (List Leaf → Option β) → Nat → List Int → List ByteArray → List Int → List ByteArray → List Int → List ByteArray → List Int → List ByteArray → List Int → List ByteArray → Bool → Int → ByteArray → ByteArray → Bool → Int → Bool → Option β)) (f : Int) (v : ByteArray) (w : ByteArray) : Option (List Leaf) :=
  one (remI .i64 f 3) fun x1237 =>
  one (addI .i64 x1237 3) fun x1238 =>
  one (remI .i64 x1238 3) fun x1239 =>
  chk (decide (0 ≤ x1239 ∧ x1239 < (↑3 : Int))) <|
  chk (decide (0 ≤ x1239 ∧ x1239 < (↑3 : Int))) <|
  out (law1_Text v 8) fun r1240 =>
  un_s r1240 fun x1241 r1242 =>
  un_nil r1242 <|
  out (law1_Text w 8) fun r1243 =>
  un_s r1243 fun x1244 r1245 =>
  un_nil r1245 <|
  out (nego_New false) fun r1246 =>
  un_li r1246 fun x1247 r1248 =>
  un_ls r1248 fun x1249 r1250 =>
  un_li r1250 fun x1251 r1252 =>
  un_ls r1252 fun x1253 r1254 =>
  un_li r1254 fun x1255 r1256 =>
  un_ls r1256 fun x1257 r1258 =>
  un_li r1258 fun x1259 r1260 =>
  un_ls r1260 fun x1261 r1262 =>
  un_li r1262 fun x1263 r1264 =>
  un_ls r1264 fun x1265 r1266 =>
  un_b r1266 fun x1267 r1268 =>
  un_nil r1268 <|
  one (wrapI .u8 (List.getD [(1 : Int), (6 : Int), (8 : Int)] (Int.toNat x1239) (0 : Int))) fun x1269 =>
  chk (Nat.ble (ByteArray.size (strOfI (partL Option.none (↑(1 : Nat) : Int) [x1269])) + ByteArray.size x1244) (9223372036854775807 : Nat)) <|
  chk (decide (Int.ofNat (List.length x1263) = Int.ofNat (List.length x1263)) && true && true) <|
  chk (decide ((↑(1 : Nat) : Int) = Int.ofNat (List.length [(35 : Int)])) && true) <|
  out (nego_Take x1247 x1249 x1251 x1253 x1255 x1257 x1259 x1261 x1263 x1265 [(35 : Int)] [strOfI (partL Option.none (↑(1 : Nat) : Int) [x1269]) ++ x1244] x1267) fun r1270 =>
  un_li r1270 fun x1271 r1272 =>
  un_ls r1272 fun x1273 r1274 =>
  un_li r1274 fun x1275 r1276 =>
  un_ls r1276 fun x1277 r1278 =>
  un_li r1278 fun x1279 r1280 =>
  un_ls r1280 fun x1281 r1282 =>
  un_li r1282 fun x1283 r1284 =>
  un_ls r1284 fun x1285 r1286 =>
  un_li r1286 fun x1287 r1288 =>
  un_ls r1288 fun x1289 r1290 =>
  un_b r1290 fun x1291 r1292 =>
  un_b r1292 fun x1293 r1294 =>
  un_nil r1294 <|
  br (!x1293)
    (chk (decide (Int.ofNat (List.length x1287) = Int.ofNat (List.length x1287)) && true && true) <|
     out (nego_Want x1271 x1273 x1275 x1277 x1279 x1281 x1283 x1285 x1287 x1289 x1291 (List.getD [(1 : Int), (6 : Int), (8 : Int)] (Int.toNat x1239) (0 : Int)) x1241) fun r1295 =>
     un_li r1295 fun x1296 r1297 =>
     un_ls r1297 fun x1298 r1299 =>
     un_li r1299 fun x1300 r1301 =>
     un_ls r1301 fun x1302 r1303 =>
     un_li r1303 fun x1304 r1305 =>
     un_ls r1305 fun x1306 r1307 =>
     un_li r1307 fun x1308 r1309 =>
     un_ls r1309 fun x1310 r1311 =>
     un_li r1311 fun x1312 r1313 =>
     un_ls r1313 fun x1314 r1315 =>
     un_b r1315 fun x1316 r1317 =>
     un_i r1317 fun x1318 r1319 =>
     un_nil r1319 <|
     br (x1318 == 3)
       (out (feat_May (List.getD [(1 : Int), (6 : Int), (8 : Int)] (Int.toNat x1239) (0 : Int)) x1241) fun r1320 =>
        un_b r1320 fun x1321 r1322 =>
        un_nil r1322 <|
        some [.b (!x1321)])
       (some [.b (false)]))
    (chk (decide (Int.ofNat (List.length x1287) = Int.ofNat (List.length x1287)) && true && true) <|
     out (nego_Mine x1271 x1273 x1275 x1277 x1279 x1281 x1283 x1285 x1287 x1289 x1291 (List.getD [(1 : Int), (6 : Int), (8 : Int)] (Int.toNat x1239) (0 : Int))) fun r1323 =>
     un_s r1323 fun x1324 r1325 =>
     un_nil r1325 <|
     out (feat_Default (List.getD [(1 : Int), (6 : Int), (8 : Int)] (Int.toNat x1239) (0 : Int))) fun r1326 =>
     un_s r1326 fun x1327 r1328 =>
     un_nil r1328 <|
     br (!x1324 == x1327)
       (chk (decide (Int.ofNat (List.length x1287) = Int.ofNat (List.length x1287)) && true && true) <|
        out (nego_Want x1271 x1273 x1275 x1277 x1279 x1281 x1283 x1285 x1287 x1289 x1291 (List.getD [(1 : Int), (6 : Int), (8 : Int)] (Int.toNat x1239) (0 : Int)) x1241) fun r1329 =>
        un_li r1329 fun x1330 r1331 =>
        un_ls r1331 fun x1332 r1333 =>
        un_li r1333 fun x1334 r1335 =>
        un_ls r1335 fun x1336 r1337 =>
        un_li r1337 fun x1338 r1339 =>
        un_ls r1339 fun x1340 r1341 =>
        un_li r1341 fun x1342 r1343 =>
        un_ls r1343 fun x1344 r1345 =>
        un_li r1345 fun x1346 r1347 =>
        un_ls r1347 fun x1348 r1349 =>
        un_b r1349 fun x1350 r1351 =>
        un_i r1351 fun x1352 r1353 =>
        un_nil r1353 <|
        br (x1352 == 3)
          (out (feat_May (List.getD [(1 : Int), (6 : Int), (8 : Int)] (Int.toNat x1239) (0 : Int)) x1241) fun r1354 =>
           un_b r1354 fun x1355 r1356 =>
           un_nil r1356 <|
           some [.b (!x1355)])
          (some [.b (false)]))
       (chk (decide (Int.ofNat (List.length x1287) = Int.ofNat (List.length x1287)) && true && true) <|
        out (nego_Want x1271 x1273 x1275 x1277 x1279 x1281 x1283 x1285 x1287 x1289 x1291 (List.getD [(1 : Int), (6 : Int), (8 : Int)] (Int.toNat x1239) (0 : Int)) x1241) fun r1357 =>
        un_li r1357 fun x1358 r1359 =>
        un_ls r1359 fun x1360 r1361 =>
        un_li r1361 fun x1362 r1363 =>
        un_ls r1363 fun x1364 r1365 =>
        un_li r1365 fun x1366 r1367 =>
        un_ls r1367 fun x1368 r1369 =>
        un_li r1369 fun x1370 r1371 =>
        un_ls r1371 fun x1372 r1373 =>
        un_li r1373 fun x1374 r1375 =>
        un_ls r1375 fun x1376 r1377 =>
        un_b r1377 fun x1378 r1379 =>
        un_i r1379 fun x1380 r1381 =>
        un_nil r1381 <|
        br (x1380 != 0)
          (chk (decide (Int.ofNat (List.length x1374) = Int.ofNat (List.length x1374)) && true && true) <|
           out (nego_Want x1358 x1360 x1362 x1364 x1366 x1368 x1370 x1372 x1374 x1376 x1378 (List.getD [(1 : Int), (6 : Int), (8 : Int)] (Int.toNat x1239) (0 : Int)) x1241) fun r1382 =>
           un_li r1382 fun x1383 r1384 =>
           un_ls r1384 fun x1385 r1386 =>
           un_li r1386 fun x1387 r1388 =>
           un_ls r1388 fun x1389 r1390 =>
           un_li r1390 fun x1391 r1392 =>
           un_ls r1392 fun x1393 r1394 =>
           un_li r1394 fun x1395 r1396 =>
           un_ls r1396 fun x1397 r1398 =>
           un_li r1398 fun x1399 r1400 =>
           un_ls r1400 fun x1401 r1402 =>
           un_b r1402 fun x1403 r1404 =>
           un_i r1404 fun x1405 r1406 =>
           un_nil r1406 <|
           br (x1405 == 3)
             (out (feat_May (List.getD [(1 : Int), (6 : Int), (8 : Int)] (Int.toNat x1239) (0 : Int)) x1241) fun r1407 =>
              un_b r1407 fun x1408 r1409 =>
              un_nil r1409 <|
              some [.b (!x1408)])
             (some [.b (false)]))
          (chk (Nat.ble (ByteArray.size (strOfI (partL Option.none (↑(1 : Nat) : Int) [x1269])) + ByteArray.size x1244) (9223372036854775807 : Nat)) <|
           chk (decide (Int.ofNat (List.length x1374) = Int.ofNat (List.length x1374)) && true && true) <|
           chk (decide ((↑(1 : Nat) : Int) = Int.ofNat (List.length [(35 : Int)])) && true) <|
           out (nego_Take x1358 x1360 x1362 x1364 x1366 x1368 x1370 x1372 x1374 x1376 [(35 : Int)] [strOfI (partL Option.none (↑(1 : Nat) : Int) [x1269]) ++ x1244] x1378) fun r1410 =>
           un_li r1410 fun x1411 r1412 =>
           un_ls r1412 fun x1413 r1414 =>
           un_li r1414 fun x1415 r1416 =>
           un_ls r1416 fun x1417 r1418 =>
           un_li r1418 fun x1419 r1420 =>
           un_ls r1420 fun x1421 r1422 =>
           un_li r1422 fun x1423 r1424 =>
           un_ls r1424 fun x1425 r1426 =>
           un_li r1426 fun x1427 r1428 =>
           un_ls r1428 fun x1429 r1430 =>
           un_b r1430 fun x1431 r1432 =>
           un_b r1432 fun x1433 r1434 =>
           un_nil r1434 <|
           br (x1244 == { data := #[] })
             (br (x1433)
                (chk (decide (Int.ofNat (List.length x1427) = Int.ofNat (List.length x1427)) && true && true) <|
                 out (nego_Done x1411 x1413 x1415 x1417 x1419 x1421 x1423 x1425 x1427 x1429 x1431) fun r1435 =>
                 un_b r1435 fun x1436 r1437 =>
                 un_nil r1437 <|
                 br (x1436)
                   (chk (decide (Int.ofNat (List.length x1427) = Int.ofNat (List.length x1427)) && true && true) <|
                    out (nego_Mine x1411 x1413 x1415 x1417 x1419 x1421 x1423 x1425 x1427 x1429 x1431 (List.getD [(1 : Int), (6 : Int), (8 : Int)] (Int.toNat x1239) (0 : Int))) fun r1438 =>
                    un_s r1438 fun x1439 r1440 =>
                    un_nil r1440 <|
                    out (feat_Default (List.getD [(1 : Int), (6 : Int), (8 : Int)] (Int.toNat x1239) (0 : Int))) fun r1441 =>
                    un_s r1441 fun x1442 r1443 =>
                    un_nil r1443 <|
                    some [.b (x1439 == x1442)])
                   (some [.b (false)]))
                (some [.b (false)]))
             (chk (decide (Int.ofNat (List.length x1427) = Int.ofNat (List.length x1427)) && true && true) <|
              L15
                (fun i1444 r1445 =>
                 br (Nat.beq 0 i1444)
                   (un_li r1445 fun x1446 r1447 =>
                    un_ls r1447 fun x1448 r1449 =>
                    un_li r1449 fun x1450 r1451 =>
                    un_ls r1451 fun x1452 r1453 =>
                    un_li r1453 fun x1454 r1455 =>
                    un_ls r1455 fun x1456 r1457 =>
                    un_li r1457 fun x1458 r1459 =>
                    un_ls r1459 fun x1460 r1461 =>
                    un_li r1461 fun x1462 r1463 =>
                    un_ls r1463 fun x1464 r1465 =>
                    un_b r1465 fun x1466 r1467 =>
                    un_s r1467 fun x1468 r1469 =>
                    un_i r1469 fun x1470 r1471 =>
                    un_b r1471 fun x1472 r1473 =>
                    un_b r1473 fun x1474 r1475 =>
                    un_nil r1475 <|
                    br (x1474 == x1472)
                      (chk (decide (Int.ofNat (List.length x1462) = Int.ofNat (List.length x1462)) && true && true) <|
                       out (nego_Done x1446 x1448 x1450 x1452 x1454 x1456 x1458 x1460 x1462 x1464 x1466) fun r1476 =>
                       un_b r1476 fun x1477 r1478 =>
                       un_nil r1478 <|
                       br (x1477 == x1472)
                         (br (!x1472)
                            (some [.b (true)])
                            (chk (decide (Int.ofNat (List.length x1462) = Int.ofNat (List.length x1462)) && true && true) <|
                             out (nego_Mine x1446 x1448 x1450 x1452 x1454 x1456 x1458 x1460 x1462 x1464 x1466 x1470) fun r1479 =>
                             un_s r1479 fun x1480 r1481 =>
                             un_nil r1481 <|
                             chk (condSl (↑(ByteArray.size x1468) : Int) Option.none (Option.some 1)) <|
                             some [.b (x1480 == strSlO x1468 Option.none (Option.some 1))]))
                         (some [.b (false)]))
                      (some [.b (false)]))
                   (none))
                (fun r1482 =>
                 un_nil r1482 <|
                 none)
                top (x1411) (x1413) (x1415) (x1417) (x1419) (x1421) (x1423) (x1425) (x1427) (x1429) (x1431) (0) (x1244) (x1241) (false) (List.getD [(1 : Int), (6 : Int), (8 : Int)] (Int.toNat x1239) (0 : Int)) (x1433)))))
def NegoBad (f : Int) (v : ByteArray) (w : ByteArray) : Option (List Leaf) := NegoBad_d @NegoBad_15_L f v w
end Go.Sx.T

