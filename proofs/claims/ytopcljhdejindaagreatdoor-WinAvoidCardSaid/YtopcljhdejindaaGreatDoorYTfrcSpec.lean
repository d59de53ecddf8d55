import Derived.Test.YtopcljhdejindaaGreatDoorYSetSpec
import Derived.Test.YtopcljhdejindaaGreatDoorYFixSpec
set_option linter.all false
namespace Go.Sx.T
open Go Go.Sx
def tfrc_New (s : Int) : Option (List Leaf) :=
  br (decide (s < 1))
    (none)
    (br (decide (s > 1400))
       (none)
       (one (wrapI .u64 s) fun x1168 =>
        one (wrapI .u64 s) fun x1169 =>
        one (mulI .u64 64 x1169) fun x1170 =>
        out (rset_New) fun r1171 =>
        un_li r1171 fun x1172 r1173 =>
        un_li r1173 fun x1174 r1175 =>
        un_nil r1175 <|
        chk (decide (Int.ofNat (List.length x1172) = Int.ofNat (List.length x1172)) && true && true) <|
        some [.li (x1172), .li (x1174), .i (x1168), .i (x1170), .i (0), .i (0), .b (false), .i (0), .b (false), .b (false), .i (0)]))
def tfrc_begin (t_set_l0 : List Int) (t_set_l1 : List Int) (t_s : Int) (t_x : Int) (t_loss : Int) (t_rtt : Int) (t_heard : Bool) (t_doubled : Int) (t_began : Bool) (t_started : Bool) (t_due : Int) : Option (List Leaf) :=
  one (mulI .u64 4 t_s) fun x1176 =>
  one (mulI .u64 2 t_s) fun x1177 =>
  one (maxI x1177 4380) fun x1178 =>
  one (minI x1176 x1178) fun x1179 =>
  one (mulI .u64 64 x1179) fun x1180 =>
  one (wrapI .u64 t_rtt) fun x1181 =>
  out (fix_MulDiv x1180 1000000 x1181) fun r1182 =>
  un_i r1182 fun x1183 r1184 =>
  un_nil r1184 <|
  some [.i (x1183)]
def tfrc_limit (t_set_l0 : List Int) (t_set_l1 : List Int) (t_s : Int) (t_x : Int) (t_loss : Int) (t_rtt : Int) (t_heard : Bool) (t_doubled : Int) (t_began : Bool) (t_started : Bool) (t_due : Int) (now : Int) (x : Int) (p : Int) (limited : Bool) : Option (List Leaf) :=
  br (limited)
    (br (decide (p > t_loss))
       (chk (decide (Int.ofNat (List.length t_set_l0) = Int.ofNat (List.length t_set_l0)) && true && true) <|
        out (rset_Halve t_set_l0 t_set_l1) fun r1185 =>
        un_li r1185 fun x1186 r1187 =>
        un_li r1187 fun x1188 r1189 =>
        un_nil r1189 <|
        one (mulI .u64 x 17) fun x1190 =>
        one (quoI .u64 x1190 20) fun x1191 =>
        chk (decide (Int.ofNat (List.length x1186) = Int.ofNat (List.length x1186)) && true && true) <|
        out (rset_Maximize x1186 x1188 x1191 now) fun r1192 =>
        un_li r1192 fun x1193 r1194 =>
        un_li r1194 fun x1195 r1196 =>
        un_nil r1196 <|
        chk (decide (Int.ofNat (List.length x1193) = Int.ofNat (List.length x1193)) && true && true) <|
        out (rset_Max x1193 x1195) fun r1197 =>
        un_i r1197 fun x1198 r1199 =>
        un_nil r1199 <|
        chk (decide (Int.ofNat (List.length x1193) = Int.ofNat (List.length x1193)) && true && true) <|
        some [.li (x1193), .li (x1195), .i (t_s), .i (t_x), .i (t_loss), .i (t_rtt), .b (t_heard), .i (t_doubled), .b (t_began), .b (t_started), .i (t_due), .i (x1198)])
       (br (limited)
          (chk (decide (Int.ofNat (List.length t_set_l0) = Int.ofNat (List.length t_set_l0)) && true && true) <|
           out (rset_Maximize t_set_l0 t_set_l1 x now) fun r1200 =>
           un_li r1200 fun x1201 r1202 =>
           un_li r1202 fun x1203 r1204 =>
           un_nil r1204 <|
           chk (decide (Int.ofNat (List.length x1201) = Int.ofNat (List.length x1201)) && true && true) <|
           out (rset_Max x1201 x1203) fun r1205 =>
           un_i r1205 fun x1206 r1207 =>
           un_nil r1207 <|
           out (fix_Mul 2 x1206) fun r1208 =>
           un_i r1208 fun x1209 r1210 =>
           un_nil r1210 <|
           chk (decide (Int.ofNat (List.length x1201) = Int.ofNat (List.length x1201)) && true && true) <|
           some [.li (x1201), .li (x1203), .i (t_s), .i (t_x), .i (t_loss), .i (t_rtt), .b (t_heard), .i (t_doubled), .b (t_began), .b (t_started), .i (t_due), .i (x1209)])
          (chk (decide (Int.ofNat (List.length t_set_l0) = Int.ofNat (List.length t_set_l0)) && true && true) <|
           out (rset_Update t_set_l0 t_set_l1 x now t_rtt) fun r1211 =>
           un_li r1211 fun x1212 r1213 =>
           un_li r1213 fun x1214 r1215 =>
           un_nil r1215 <|
           chk (decide (Int.ofNat (List.length x1212) = Int.ofNat (List.length x1212)) && true && true) <|
           out (rset_Max x1212 x1214) fun r1216 =>
           un_i r1216 fun x1217 r1218 =>
           un_nil r1218 <|
           out (fix_Mul 2 x1217) fun r1219 =>
           un_i r1219 fun x1220 r1221 =>
           un_nil r1221 <|
           chk (decide (Int.ofNat (List.length x1212) = Int.ofNat (List.length x1212)) && true && true) <|
           some [.li (x1212), .li (x1214), .i (t_s), .i (t_x), .i (t_loss), .i (t_rtt), .b (t_heard), .i (t_doubled), .b (t_began), .b (t_started), .i (t_due), .i (x1220)])))
    (br (limited)
       (chk (decide (Int.ofNat (List.length t_set_l0) = Int.ofNat (List.length t_set_l0)) && true && true) <|
        out (rset_Maximize t_set_l0 t_set_l1 x now) fun r1222 =>
        un_li r1222 fun x1223 r1224 =>
        un_li r1224 fun x1225 r1226 =>
        un_nil r1226 <|
        chk (decide (Int.ofNat (List.length x1223) = Int.ofNat (List.length x1223)) && true && true) <|
        out (rset_Max x1223 x1225) fun r1227 =>
        un_i r1227 fun x1228 r1229 =>
        un_nil r1229 <|
        out (fix_Mul 2 x1228) fun r1230 =>
        un_i r1230 fun x1231 r1232 =>
        un_nil r1232 <|
        chk (decide (Int.ofNat (List.length x1223) = Int.ofNat (List.length x1223)) && true && true) <|
        some [.li (x1223), .li (x1225), .i (t_s), .i (t_x), .i (t_loss), .i (t_rtt), .b (t_heard), .i (t_doubled), .b (t_began), .b (t_started), .i (t_due), .i (x1231)])
       (chk (decide (Int.ofNat (List.length t_set_l0) = Int.ofNat (List.length t_set_l0)) && true && true) <|
        out (rset_Update t_set_l0 t_set_l1 x now t_rtt) fun r1233 =>
        un_li r1233 fun x1234 r1235 =>
        un_li r1235 fun x1236 r1237 =>
        un_nil r1237 <|
        chk (decide (Int.ofNat (List.length x1234) = Int.ofNat (List.length x1234)) && true && true) <|
        out (rset_Max x1234 x1236) fun r1238 =>
        un_i r1238 fun x1239 r1240 =>
        un_nil r1240 <|
        out (fix_Mul 2 x1239) fun r1241 =>
        un_i r1241 fun x1242 r1243 =>
        un_nil r1243 <|
        chk (decide (Int.ofNat (List.length x1234) = Int.ofNat (List.length x1234)) && true && true) <|
        some [.li (x1234), .li (x1236), .i (t_s), .i (t_x), .i (t_loss), .i (t_rtt), .b (t_heard), .i (t_doubled), .b (t_began), .b (t_started), .i (t_due), .i (x1242)]))
def tfrc_waits (t_set_l0 : List Int) (t_set_l1 : List Int) (t_s : Int) (t_x : Int) (t_loss : Int) (t_rtt : Int) (t_heard : Bool) (t_doubled : Int) (t_began : Bool) (t_started : Bool) (t_due : Int) (now : Int) : Option (List Leaf) :=
  one (minI now 4611686018427387904) fun x1244 =>
  one (mulI .i64 4 t_rtt) fun x1245 =>
  one (mulI .u64 128 t_s) fun x1246 =>
  out (fix_MulDiv x1246 1000000 t_x) fun r1247 =>
  un_i r1247 fun x1248 r1249 =>
  un_nil r1249 <|
  one (wrapI .i64 x1248) fun x1250 =>
  one (maxI x1245 x1250) fun x1251 =>
  one (addI .i64 x1244 x1251) fun x1252 =>
  chk (decide (Int.ofNat (List.length t_set_l0) = Int.ofNat (List.length t_set_l0)) && true && true) <|
  some [.li (t_set_l0), .li (t_set_l1), .i (t_s), .i (t_x), .i (t_loss), .i (t_rtt), .b (t_heard), .i (t_doubled), .b (t_began), .b (true), .i (x1252)]
def tfrc_Hear (t_set_l0 : List Int) (t_set_l1 : List Int) (t_s : Int) (t_x : Int) (t_loss : Int) (t_rtt : Int) (t_heard : Bool) (t_doubled : Int) (t_began : Bool) (t_started : Bool) (t_due : Int) (now : Int) (sample : Int) (x : Int) (p : Int) (limited : Bool) : Option (List Leaf) :=
  one (maxI now 0) fun x1253 =>
  one (minI x1253 4611686018427387904) fun x1254 =>
  one (maxI sample 1) fun x1255 =>
  one (minI x1255 4294967296) fun x1256 =>
  one (minI x 1125899906842624) fun x1257 =>
  one (minI p 4294967296) fun x1258 =>
  br (!t_heard)
    (chk (decide (Int.ofNat (List.length t_set_l0) = Int.ofNat (List.length t_set_l0)) && true && true) <|
     out (tfrc_begin t_set_l0 t_set_l1 t_s t_x t_loss x1256 true t_doubled t_began t_started t_due) fun r1259 =>
     un_i r1259 fun x1260 r1261 =>
     un_nil r1261 <|
     chk (decide (Int.ofNat (List.length t_set_l0) = Int.ofNat (List.length t_set_l0)) && true && true) <|
     out (tfrc_limit t_set_l0 t_set_l1 t_s x1260 t_loss x1256 true x1254 t_began t_started t_due x1254 x1257 x1258 limited) fun r1262 =>
     un_li r1262 fun x1263 r1264 =>
     un_li r1264 fun x1265 r1266 =>
     un_i r1266 fun x1267 r1268 =>
     un_i r1268 fun x1269 r1270 =>
     un_i r1270 fun x1271 r1272 =>
     un_i r1272 fun x1273 r1274 =>
     un_b r1274 fun x1275 r1276 =>
     un_i r1276 fun x1277 r1278 =>
     un_b r1278 fun x1279 r1280 =>
     un_b r1280 fun x1281 r1282 =>
     un_i r1282 fun x1283 r1284 =>
     un_i r1284 fun x1285 r1286 =>
     un_nil r1286 <|
     br (decide (x1258 > 0))
       (one (wrapI .u64 x1273) fun x1287 =>
        out (eqn_Rate x1267 x1287 x1258) fun r1288 =>
        un_i r1288 fun x1289 r1290 =>
        un_nil r1290 <|
        one (minI x1289 x1285) fun x1291 =>
        one (maxI x1291 x1267) fun x1292 =>
        chk (decide (Int.ofNat (List.length x1263) = Int.ofNat (List.length x1263)) && true && true) <|
        out (tfrc_waits x1263 x1265 x1267 x1292 x1258 x1273 x1275 x1277 x1279 x1281 x1283 x1254) fun r1293 =>
        un_li r1293 fun x1294 r1295 =>
        un_li r1295 fun x1296 r1297 =>
        un_i r1297 fun x1298 r1299 =>
        un_i r1299 fun x1300 r1301 =>
        un_i r1301 fun x1302 r1303 =>
        un_i r1303 fun x1304 r1305 =>
        un_b r1305 fun x1306 r1307 =>
        un_i r1307 fun x1308 r1309 =>
        un_b r1309 fun x1310 r1311 =>
        un_b r1311 fun x1312 r1313 =>
        un_i r1313 fun x1314 r1315 =>
        un_nil r1315 <|
        chk (decide (Int.ofNat (List.length x1294) = Int.ofNat (List.length x1294)) && true && true) <|
        some [.li (x1294), .li (x1296), .i (x1298), .i (x1300), .i (x1302), .i (x1304), .b (x1306), .i (x1308), .b (x1310), .b (x1312), .i (x1314)])
       (br (!!t_heard)
          (one (addI .i64 x1277 x1273) fun x1316 =>
           br (decide (x1254 ≥ x1316))
             (out (fix_Mul 2 x1269) fun r1317 =>
              un_i r1317 fun x1318 r1319 =>
              un_nil r1319 <|
              one (minI x1318 x1285) fun x1320 =>
              chk (decide (Int.ofNat (List.length x1263) = Int.ofNat (List.length x1263)) && true && true) <|
              out (tfrc_begin x1263 x1265 x1267 x1269 x1258 x1273 x1275 x1277 x1279 x1281 x1283) fun r1321 =>
              un_i r1321 fun x1322 r1323 =>
              un_nil r1323 <|
              one (maxI x1320 x1322) fun x1324 =>
              one (maxI x1324 x1267) fun x1325 =>
              chk (decide (Int.ofNat (List.length x1263) = Int.ofNat (List.length x1263)) && true && true) <|
              out (tfrc_waits x1263 x1265 x1267 x1325 x1258 x1273 x1275 x1254 x1279 x1281 x1283 x1254) fun r1326 =>
              un_li r1326 fun x1327 r1328 =>
              un_li r1328 fun x1329 r1330 =>
              un_i r1330 fun x1331 r1332 =>
              un_i r1332 fun x1333 r1334 =>
              un_i r1334 fun x1335 r1336 =>
              un_i r1336 fun x1337 r1338 =>
              un_b r1338 fun x1339 r1340 =>
              un_i r1340 fun x1341 r1342 =>
              un_b r1342 fun x1343 r1344 =>
              un_b r1344 fun x1345 r1346 =>
              un_i r1346 fun x1347 r1348 =>
              un_nil r1348 <|
              chk (decide (Int.ofNat (List.length x1327) = Int.ofNat (List.length x1327)) && true && true) <|
              some [.li (x1327), .li (x1329), .i (x1331), .i (x1333), .i (x1335), .i (x1337), .b (x1339), .i (x1341), .b (x1343), .b (x1345), .i (x1347)])
             (one (maxI x1269 x1267) fun x1349 =>
              chk (decide (Int.ofNat (List.length x1263) = Int.ofNat (List.length x1263)) && true && true) <|
              out (tfrc_waits x1263 x1265 x1267 x1349 x1258 x1273 x1275 x1277 x1279 x1281 x1283 x1254) fun r1350 =>
              un_li r1350 fun x1351 r1352 =>
              un_li r1352 fun x1353 r1354 =>
              un_i r1354 fun x1355 r1356 =>
              un_i r1356 fun x1357 r1358 =>
              un_i r1358 fun x1359 r1360 =>
              un_i r1360 fun x1361 r1362 =>
              un_b r1362 fun x1363 r1364 =>
              un_i r1364 fun x1365 r1366 =>
              un_b r1366 fun x1367 r1368 =>
              un_b r1368 fun x1369 r1370 =>
              un_i r1370 fun x1371 r1372 =>
              un_nil r1372 <|
              chk (decide (Int.ofNat (List.length x1351) = Int.ofNat (List.length x1351)) && true && true) <|
              some [.li (x1351), .li (x1353), .i (x1355), .i (x1357), .i (x1359), .i (x1361), .b (x1363), .i (x1365), .b (x1367), .b (x1369), .i (x1371)]))
          (one (maxI x1269 x1267) fun x1373 =>
           chk (decide (Int.ofNat (List.length x1263) = Int.ofNat (List.length x1263)) && true && true) <|
           out (tfrc_waits x1263 x1265 x1267 x1373 x1258 x1273 x1275 x1277 x1279 x1281 x1283 x1254) fun r1374 =>
           un_li r1374 fun x1375 r1376 =>
           un_li r1376 fun x1377 r1378 =>
           un_i r1378 fun x1379 r1380 =>
           un_i r1380 fun x1381 r1382 =>
           un_i r1382 fun x1383 r1384 =>
           un_i r1384 fun x1385 r1386 =>
           un_b r1386 fun x1387 r1388 =>
           un_i r1388 fun x1389 r1390 =>
           un_b r1390 fun x1391 r1392 =>
           un_b r1392 fun x1393 r1394 =>
           un_i r1394 fun x1395 r1396 =>
           un_nil r1396 <|
           chk (decide (Int.ofNat (List.length x1375) = Int.ofNat (List.length x1375)) && true && true) <|
           some [.li (x1375), .li (x1377), .i (x1379), .i (x1381), .i (x1383), .i (x1385), .b (x1387), .i (x1389), .b (x1391), .b (x1393), .i (x1395)])))
    (one (mulI .i64 9 t_rtt) fun x1397 =>
     one (addI .i64 x1397 x1256) fun x1398 =>
     one (quoI .i64 x1398 10) fun x1399 =>
     chk (decide (Int.ofNat (List.length t_set_l0) = Int.ofNat (List.length t_set_l0)) && true && true) <|
     out (tfrc_limit t_set_l0 t_set_l1 t_s t_x t_loss x1399 t_heard t_doubled t_began t_started t_due x1254 x1257 x1258 limited) fun r1400 =>
     un_li r1400 fun x1401 r1402 =>
     un_li r1402 fun x1403 r1404 =>
     un_i r1404 fun x1405 r1406 =>
     un_i r1406 fun x1407 r1408 =>
     un_i r1408 fun x1409 r1410 =>
     un_i r1410 fun x1411 r1412 =>
     un_b r1412 fun x1413 r1414 =>
     un_i r1414 fun x1415 r1416 =>
     un_b r1416 fun x1417 r1418 =>
     un_b r1418 fun x1419 r1420 =>
     un_i r1420 fun x1421 r1422 =>
     un_i r1422 fun x1423 r1424 =>
     un_nil r1424 <|
     br (decide (x1258 > 0))
       (one (wrapI .u64 x1411) fun x1425 =>
        out (eqn_Rate x1405 x1425 x1258) fun r1426 =>
        un_i r1426 fun x1427 r1428 =>
        un_nil r1428 <|
        one (minI x1427 x1423) fun x1429 =>
        one (maxI x1429 x1405) fun x1430 =>
        chk (decide (Int.ofNat (List.length x1401) = Int.ofNat (List.length x1401)) && true && true) <|
        out (tfrc_waits x1401 x1403 x1405 x1430 x1258 x1411 x1413 x1415 x1417 x1419 x1421 x1254) fun r1431 =>
        un_li r1431 fun x1432 r1433 =>
        un_li r1433 fun x1434 r1435 =>
        un_i r1435 fun x1436 r1437 =>
        un_i r1437 fun x1438 r1439 =>
        un_i r1439 fun x1440 r1441 =>
        un_i r1441 fun x1442 r1443 =>
        un_b r1443 fun x1444 r1445 =>
        un_i r1445 fun x1446 r1447 =>
        un_b r1447 fun x1448 r1449 =>
        un_b r1449 fun x1450 r1451 =>
        un_i r1451 fun x1452 r1453 =>
        un_nil r1453 <|
        chk (decide (Int.ofNat (List.length x1432) = Int.ofNat (List.length x1432)) && true && true) <|
        some [.li (x1432), .li (x1434), .i (x1436), .i (x1438), .i (x1440), .i (x1442), .b (x1444), .i (x1446), .b (x1448), .b (x1450), .i (x1452)])
       (br (!!t_heard)
          (one (addI .i64 x1415 x1411) fun x1454 =>
           br (decide (x1254 ≥ x1454))
             (out (fix_Mul 2 x1407) fun r1455 =>
              un_i r1455 fun x1456 r1457 =>
              un_nil r1457 <|
              one (minI x1456 x1423) fun x1458 =>
              chk (decide (Int.ofNat (List.length x1401) = Int.ofNat (List.length x1401)) && true && true) <|
              out (tfrc_begin x1401 x1403 x1405 x1407 x1258 x1411 x1413 x1415 x1417 x1419 x1421) fun r1459 =>
              un_i r1459 fun x1460 r1461 =>
              un_nil r1461 <|
              one (maxI x1458 x1460) fun x1462 =>
              one (maxI x1462 x1405) fun x1463 =>
              chk (decide (Int.ofNat (List.length x1401) = Int.ofNat (List.length x1401)) && true && true) <|
              out (tfrc_waits x1401 x1403 x1405 x1463 x1258 x1411 x1413 x1254 x1417 x1419 x1421 x1254) fun r1464 =>
              un_li r1464 fun x1465 r1466 =>
              un_li r1466 fun x1467 r1468 =>
              un_i r1468 fun x1469 r1470 =>
              un_i r1470 fun x1471 r1472 =>
              un_i r1472 fun x1473 r1474 =>
              un_i r1474 fun x1475 r1476 =>
              un_b r1476 fun x1477 r1478 =>
              un_i r1478 fun x1479 r1480 =>
              un_b r1480 fun x1481 r1482 =>
              un_b r1482 fun x1483 r1484 =>
              un_i r1484 fun x1485 r1486 =>
              un_nil r1486 <|
              chk (decide (Int.ofNat (List.length x1465) = Int.ofNat (List.length x1465)) && true && true) <|
              some [.li (x1465), .li (x1467), .i (x1469), .i (x1471), .i (x1473), .i (x1475), .b (x1477), .i (x1479), .b (x1481), .b (x1483), .i (x1485)])
             (one (maxI x1407 x1405) fun x1487 =>
              chk (decide (Int.ofNat (List.length x1401) = Int.ofNat (List.length x1401)) && true && true) <|
              out (tfrc_waits x1401 x1403 x1405 x1487 x1258 x1411 x1413 x1415 x1417 x1419 x1421 x1254) fun r1488 =>
              un_li r1488 fun x1489 r1490 =>
              un_li r1490 fun x1491 r1492 =>
              un_i r1492 fun x1493 r1494 =>
              un_i r1494 fun x1495 r1496 =>
              un_i r1496 fun x1497 r1498 =>
              un_i r1498 fun x1499 r1500 =>
              un_b r1500 fun x1501 r1502 =>
              un_i r1502 fun x1503 r1504 =>
              un_b r1504 fun x1505 r1506 =>
              un_b r1506 fun x1507 r1508 =>
              un_i r1508 fun x1509 r1510 =>
              un_nil r1510 <|
              chk (decide (Int.ofNat (List.length x1489) = Int.ofNat (List.length x1489)) && true && true) <|
              some [.li (x1489), .li (x1491), .i (x1493), .i (x1495), .i (x1497), .i (x1499), .b (x1501), .i (x1503), .b (x1505), .b (x1507), .i (x1509)]))
          (one (maxI x1407 x1405) fun x1511 =>
           chk (decide (Int.ofNat (List.length x1401) = Int.ofNat (List.length x1401)) && true && true) <|
           out (tfrc_waits x1401 x1403 x1405 x1511 x1258 x1411 x1413 x1415 x1417 x1419 x1421 x1254) fun r1512 =>
           un_li r1512 fun x1513 r1514 =>
           un_li r1514 fun x1515 r1516 =>
           un_i r1516 fun x1517 r1518 =>
           un_i r1518 fun x1519 r1520 =>
           un_i r1520 fun x1521 r1522 =>
           un_i r1522 fun x1523 r1524 =>
           un_b r1524 fun x1525 r1526 =>
           un_i r1526 fun x1527 r1528 =>
           un_b r1528 fun x1529 r1530 =>
           un_b r1530 fun x1531 r1532 =>
           un_i r1532 fun x1533 r1534 =>
           un_nil r1534 <|
           chk (decide (Int.ofNat (List.length x1513) = Int.ofNat (List.length x1513)) && true && true) <|
           some [.li (x1513), .li (x1515), .i (x1517), .i (x1519), .i (x1521), .i (x1523), .b (x1525), .i (x1527), .b (x1529), .b (x1531), .i (x1533)])))
def tfrc_Rate (t_set_l0 : List Int) (t_set_l1 : List Int) (t_s : Int) (t_x : Int) (t_loss : Int) (t_rtt : Int) (t_heard : Bool) (t_doubled : Int) (t_began : Bool) (t_started : Bool) (t_due : Int) : Option (List Leaf) :=
  some [.i (t_x)]
def tfrc_Loss (t_set_l0 : List Int) (t_set_l1 : List Int) (t_s : Int) (t_x : Int) (t_loss : Int) (t_rtt : Int) (t_heard : Bool) (t_doubled : Int) (t_began : Bool) (t_started : Bool) (t_due : Int) : Option (List Leaf) :=
  some [.i (t_loss)]
def tfrc_Top (t_set_l0 : List Int) (t_set_l1 : List Int) (t_s : Int) (t_x : Int) (t_loss : Int) (t_rtt : Int) (t_heard : Bool) (t_doubled : Int) (t_began : Bool) (t_started : Bool) (t_due : Int) : Option (List Leaf) :=
  chk (decide (Int.ofNat (List.length t_set_l0) = Int.ofNat (List.length t_set_l0)) && true && true) <|
  out (rset_Max t_set_l0 t_set_l1) fun r1535 =>
  un_i r1535 fun x1536 r1537 =>
  un_nil r1537 <|
  some [.i (x1536)]
def tfrc_Rtt (t_set_l0 : List Int) (t_set_l1 : List Int) (t_s : Int) (t_x : Int) (t_loss : Int) (t_rtt : Int) (t_heard : Bool) (t_doubled : Int) (t_began : Bool) (t_started : Bool) (t_due : Int) : Option (List Leaf) :=
  some [.i (t_rtt)]
def tfrc_Start (t_set_l0 : List Int) (t_set_l1 : List Int) (t_s : Int) (t_x : Int) (t_loss : Int) (t_rtt : Int) (t_heard : Bool) (t_doubled : Int) (t_began : Bool) (t_started : Bool) (t_due : Int) (now : Int) : Option (List Leaf) :=
  br (!t_began)
    (one (minI now 4611686018427387904) fun x1538 =>
     one (addI .i64 x1538 2000000) fun x1539 =>
     chk (decide (Int.ofNat (List.length t_set_l0) = Int.ofNat (List.length t_set_l0)) && true && true) <|
     some [.li (t_set_l0), .li (t_set_l1), .i (t_s), .i (t_x), .i (t_loss), .i (t_rtt), .b (t_heard), .i (t_doubled), .b (true), .b (true), .i (x1539)])
    (chk (decide (Int.ofNat (List.length t_set_l0) = Int.ofNat (List.length t_set_l0)) && true && true) <|
     some [.li (t_set_l0), .li (t_set_l1), .i (t_s), .i (t_x), .i (t_loss), .i (t_rtt), .b (t_heard), .i (t_doubled), .b (t_began), .b (t_started), .i (t_due)])
def tfrc_Due (t_set_l0 : List Int) (t_set_l1 : List Int) (t_s : Int) (t_x : Int) (t_loss : Int) (t_rtt : Int) (t_heard : Bool) (t_doubled : Int) (t_began : Bool) (t_started : Bool) (t_due : Int) : Option (List Leaf) :=
  br (!t_started)
    (some [.i (0), .b (false)])
    (some [.i (t_due), .b (true)])
def tfrc_Fire (t_set_l0 : List Int) (t_set_l1 : List Int) (t_s : Int) (t_x : Int) (t_loss : Int) (t_rtt : Int) (t_heard : Bool) (t_doubled : Int) (t_began : Bool) (t_started : Bool) (t_due : Int) (now : Int) : Option (List Leaf) :=
  br (!t_started)
    (chk (decide (Int.ofNat (List.length t_set_l0) = Int.ofNat (List.length t_set_l0)) && true && true) <|
     some [.li (t_set_l0), .li (t_set_l1), .i (t_s), .i (t_x), .i (t_loss), .i (t_rtt), .b (t_heard), .i (t_doubled), .b (t_began), .b (t_started), .i (t_due), .b (false)])
    (one (minI now 4611686018427387904) fun x1540 =>
     br (decide (x1540 < t_due))
       (chk (decide (Int.ofNat (List.length t_set_l0) = Int.ofNat (List.length t_set_l0)) && true && true) <|
        some [.li (t_set_l0), .li (t_set_l1), .i (t_s), .i (t_x), .i (t_loss), .i (t_rtt), .b (t_heard), .i (t_doubled), .b (t_began), .b (t_started), .i (t_due), .b (false)])
       (one (quoI .u64 t_x 2) fun x1541 =>
        one (maxI x1541 t_s) fun x1542 =>
        br (t_heard)
          (one (addI .u64 x1542 1) fun x1543 =>
           one (quoI .u64 x1543 2) fun x1544 =>
           chk (decide (Int.ofNat (List.length t_set_l0) = Int.ofNat (List.length t_set_l0)) && true && true) <|
           out (rset_Only t_set_l0 t_set_l1 x1544 now) fun r1545 =>
           un_li r1545 fun x1546 r1547 =>
           un_li r1547 fun x1548 r1549 =>
           un_nil r1549 <|
           chk (decide (Int.ofNat (List.length x1546) = Int.ofNat (List.length x1546)) && true && true) <|
           out (tfrc_waits x1546 x1548 t_s x1542 t_loss t_rtt t_heard t_doubled t_began t_started t_due now) fun r1550 =>
           un_li r1550 fun x1551 r1552 =>
           un_li r1552 fun x1553 r1554 =>
           un_i r1554 fun x1555 r1556 =>
           un_i r1556 fun x1557 r1558 =>
           un_i r1558 fun x1559 r1560 =>
           un_i r1560 fun x1561 r1562 =>
           un_b r1562 fun x1563 r1564 =>
           un_i r1564 fun x1565 r1566 =>
           un_b r1566 fun x1567 r1568 =>
           un_b r1568 fun x1569 r1570 =>
           un_i r1570 fun x1571 r1572 =>
           un_nil r1572 <|
           chk (decide (Int.ofNat (List.length x1551) = Int.ofNat (List.length x1551)) && true && true) <|
           some [.li (x1551), .li (x1553), .i (x1555), .i (x1557), .i (x1559), .i (x1561), .b (x1563), .i (x1565), .b (x1567), .b (decide (x1557 > x1555)), .i (x1571), .b (true)])
          (chk (decide (Int.ofNat (List.length t_set_l0) = Int.ofNat (List.length t_set_l0)) && true && true) <|
           out (tfrc_waits t_set_l0 t_set_l1 t_s x1542 t_loss t_rtt t_heard t_doubled t_began t_started t_due now) fun r1573 =>
           un_li r1573 fun x1574 r1575 =>
           un_li r1575 fun x1576 r1577 =>
           un_i r1577 fun x1578 r1579 =>
           un_i r1579 fun x1580 r1581 =>
           un_i r1581 fun x1582 r1583 =>
           un_i r1583 fun x1584 r1585 =>
           un_b r1585 fun x1586 r1587 =>
           un_i r1587 fun x1588 r1589 =>
           un_b r1589 fun x1590 r1591 =>
           un_b r1591 fun x1592 r1593 =>
           un_i r1593 fun x1594 r1595 =>
           un_nil r1595 <|
           chk (decide (Int.ofNat (List.length x1574) = Int.ofNat (List.length x1574)) && true && true) <|
           some [.li (x1574), .li (x1576), .i (x1578), .i (x1580), .i (x1582), .i (x1584), .b (x1586), .i (x1588), .b (x1590), .b (decide (x1580 > x1578)), .i (x1594), .b (true)])))
end Go.Sx.T

