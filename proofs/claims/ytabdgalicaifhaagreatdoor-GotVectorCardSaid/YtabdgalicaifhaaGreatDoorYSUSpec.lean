import Derived.Test.YtabdgalicaifhaaGreatDoorYSentSpec
import Derived.Test.YtabdgalicaifhaaGreatDoorYFixSpec
set_option linter.all false
namespace Go.Sx.T
open Go Go.Sx
def ref_State (s : Int) : Option (List Leaf) :=
  br (s == 0)
    (some [.b (true)])
    (br (s == 1)
       (some [.b (true)])
       (some [.b (s == 3)]))
def ref_MayCells_3_B  {α : Type} (kx : Nat → List Leaf → Option α) (kr : List Leaf → Option α) (again : List Int → List Int → Int → Int → Option α) (cs0 : List Int) (cs1 : List Int) (i : Int) (n2 : Int) : Option α :=
  one (Int.ofNat (List.length cs0)) fun x1299 =>
  br (decide (i < x1299))
    (chk (decide ((0 : Int) ≤ i ∧ i < Int.ofNat (List.length cs0))) <|
     chk (decide ((0 : Int) ≤ i ∧ i < Int.ofNat (List.length cs0))) <|
     out (ref_State (List.getD cs0 (Int.toNat i) 0)) fun r1300 =>
     un_b r1300 fun x1301 r1302 =>
     un_nil r1302 <|
     br (!x1301)
       (kr [.li (cs0), .li (cs1), .b (false)])
       (chk (decide ((0 : Int) ≤ i ∧ i < Int.ofNat (List.length cs0))) <|
        chk (decide ((0 : Int) ≤ i ∧ i < Int.ofNat (List.length cs0))) <|
        br (decide (List.getD cs1 (Int.toNat i) 0 < 1))
          (kr [.li (cs0), .li (cs1), .b (false)])
          (chk (decide ((0 : Int) ≤ i ∧ i < Int.ofNat (List.length cs0))) <|
           chk (decide ((0 : Int) ≤ i ∧ i < Int.ofNat (List.length cs0))) <|
           br (decide (List.getD cs1 (Int.toNat i) 0 > 64))
             (kr [.li (cs0), .li (cs1), .b (false)])
             (chk (decide ((0 : Int) ≤ i ∧ i < Int.ofNat (List.length cs0))) <|
              chk (decide ((0 : Int) ≤ i ∧ i < Int.ofNat (List.length cs0))) <|
              one (subI .i64 1000 (List.getD cs1 (Int.toNat i) 0)) fun x1303 =>
              br (decide (n2 > x1303))
                (kr [.li (cs0), .li (cs1), .b (false)])
                (chk (decide ((0 : Int) ≤ i ∧ i < Int.ofNat (List.length cs0))) <|
                 chk (decide ((0 : Int) ≤ i ∧ i < Int.ofNat (List.length cs0))) <|
                 one (addI .i64 n2 (List.getD cs1 (Int.toNat i) 0)) fun x1304 =>
                 one (addI .i64 i 1) fun x1305 =>
                 chk (decide (Int.ofNat (List.length cs0) = Int.ofNat (List.length cs0)) && true) <|
                 again (cs0) (cs1) (x1305) (x1304))))))
    (kx 0 [.li (cs0), .li (cs1)])
def ref_MayCells_3_L {α : Type} (kx : Nat → List Leaf → Option α) (kr : List Leaf → Option α) : Nat → List Int → List Int → Int → Int → Option α
  | 0, _, _, _, _ => none
  | n + 1, cs0, cs1, i, n2 => ref_MayCells_3_B  kx kr (ref_MayCells_3_L kx kr n) cs0 cs1 i n2
def ref_MayCells_3_F (L3 : ({β : Type} → (Nat → List Leaf → Option β) → (List Leaf → Option β) → Nat → List Int → List Int → Int → Int → Option β)) {α : Type} (n : Nat) (ls : List Leaf) (kx : Nat → List Leaf → Option α) (kr : List Leaf → Option α) : Option α := un_li ls fun cs0 rr => un_li rr fun cs1 rr => un_i rr fun i rr => un_i rr fun n2 rr => un_nil rr (L3 kx kr n cs0 cs1 i n2)
def ref_MayCells_d (L3 : ({β : Type} → (Nat → List Leaf → Option β) → (List Leaf → Option β) → Nat → List Int → List Int → Int → Int → Option β)) (cs0 : List Int) (cs1 : List Int) : Option (List Leaf) :=
  chk (decide (Int.ofNat (List.length cs0) = Int.ofNat (List.length cs0)) && true) <|
  L3
    (fun i1306 r1307 =>
     br (Nat.beq 0 i1306)
       (un_li r1307 fun x1308 r1309 =>
        un_li r1309 fun x1310 r1311 =>
        un_nil r1311 <|
        some [.b (true)])
       (none))
    (fun r1312 =>
     un_li r1312 fun x1313 r1314 =>
     un_li r1314 fun x1315 r1316 =>
     un_b r1316 fun x1317 r1318 =>
     un_nil r1318 <|
     some [.b (x1317)])
    top (cs0) (cs1) (0) (0)
def ref_MayCells (cs0 : List Int) (cs1 : List Int) : Option (List Leaf) := ref_MayCells_d @ref_MayCells_3_L cs0 cs1
def ref_Spread_8_B  {α : Type} (kx : Nat → List Leaf → Option α) (kr : List Leaf → Option α) (again : List Int → List Int → List Int → Int → Int → Option α) (cs0 : List Int) (cs1 : List Int) (l : List Int) (k : Int) (i : Int) : Option α :=
  chk (decide ((0 : Int) ≤ i ∧ i < Int.ofNat (List.length cs0))) <|
  chk (decide ((0 : Int) ≤ i ∧ i < Int.ofNat (List.length cs0))) <|
  br (decide (k < List.getD cs1 (Int.toNat i) 0))
    (chk (decide ((0 : Int) ≤ i ∧ i < Int.ofNat (List.length cs0))) <|
     chk (decide ((0 : Int) ≤ i ∧ i < Int.ofNat (List.length cs0))) <|
     chk (decide (Int.ofNat (List.length l) = Int.ofNat (List.length l)) && true && decide ((Int.ofNat (List.length l) + (↑(1 : Nat) : Int)) * (↑(nat_lit 8) : Int) ≤ (140737488355328 : Int) ∧ Int.ofNat (List.length l) + (↑(1 : Nat) : Int) ≤ (4611686018427387904 : Int))) <|
     one (addI .i64 k 1) fun x1324 =>
     chk (decide (Int.ofNat (List.length cs0) = Int.ofNat (List.length cs0)) && (decide (Int.ofNat (List.length l) + (↑(1 : Nat) : Int) = Int.ofNat (List.length (l ++ [List.getD cs0 (Int.toNat i) (0 : Int)]))) && true)) <|
     again (cs0) (cs1) (l ++ [List.getD cs0 (Int.toNat i) (0 : Int)]) (x1324) (i))
    (chk (decide (Int.ofNat (List.length cs0) = Int.ofNat (List.length cs0)) && (decide (Int.ofNat (List.length l) = Int.ofNat (List.length l)) && true)) <|
     kx 2 [.li (cs0), .li (cs1), .li (l), .i (i)])
def ref_Spread_8_L {α : Type} (kx : Nat → List Leaf → Option α) (kr : List Leaf → Option α) : Nat → List Int → List Int → List Int → Int → Int → Option α
  | 0, _, _, _, _, _ => none
  | n + 1, cs0, cs1, l, k, i => ref_Spread_8_B  kx kr (ref_Spread_8_L kx kr n) cs0 cs1 l k i
def ref_Spread_8_F (L8 : ({β : Type} → (Nat → List Leaf → Option β) → (List Leaf → Option β) → Nat → List Int → List Int → List Int → Int → Int → Option β)) {α : Type} (n : Nat) (ls : List Leaf) (kx : Nat → List Leaf → Option α) (kr : List Leaf → Option α) : Option α := un_li ls fun cs0 rr => un_li rr fun cs1 rr => un_li rr fun l rr => un_i rr fun k rr => un_i rr fun i rr => un_nil rr (L8 kx kr n cs0 cs1 l k i)
def ref_Spread_5_B (L8 : ({β : Type} → (Nat → List Leaf → Option β) → (List Leaf → Option β) → Nat → List Int → List Int → List Int → Int → Int → Option β)) {α : Type} (kx : Nat → List Leaf → Option α) (kr : List Leaf → Option α) (again : List Int → List Int → List Int → Int → Option α) (cs0 : List Int) (cs1 : List Int) (l : List Int) (i : Int) : Option α :=
  one (Int.ofNat (List.length cs0)) fun x1338 =>
  br (decide (i < x1338))
    (chk (decide (Int.ofNat (List.length cs0) = Int.ofNat (List.length cs0)) && (decide (Int.ofNat (List.length l) = Int.ofNat (List.length l)) && true)) <|
     L8
       (fun i1339 r1340 =>
        br (Nat.beq 2 i1339)
          (un_li r1340 fun x1341 r1342 =>
           un_li r1342 fun x1343 r1344 =>
           un_li r1344 fun x1345 r1346 =>
           un_i r1346 fun x1347 r1348 =>
           un_nil r1348 <|
           one (addI .i64 x1347 1) fun x1349 =>
           chk (decide (Int.ofNat (List.length x1341) = Int.ofNat (List.length x1341)) && (decide (Int.ofNat (List.length x1345) = Int.ofNat (List.length x1345)) && true)) <|
           again (x1341) (x1343) (x1345) (x1349))
          (none))
       (fun r1350 =>
        un_nil r1350 <|
        none)
       top (cs0) (cs1) (l) (0) (i))
    (chk (decide (Int.ofNat (List.length l) = Int.ofNat (List.length l)) && true) <|
     kx 0 [.li (cs0), .li (cs1), .li (l)])
def ref_Spread_5_L {α : Type} (kx : Nat → List Leaf → Option α) (kr : List Leaf → Option α) : Nat → List Int → List Int → List Int → Int → Option α
  | 0, _, _, _, _ => none
  | n + 1, cs0, cs1, l, i => ref_Spread_5_B @ref_Spread_8_L kx kr (ref_Spread_5_L kx kr n) cs0 cs1 l i
def ref_Spread_5_F (L5 : ({β : Type} → (Nat → List Leaf → Option β) → (List Leaf → Option β) → Nat → List Int → List Int → List Int → Int → Option β)) {α : Type} (n : Nat) (ls : List Leaf) (kx : Nat → List Leaf → Option α) (kr : List Leaf → Option α) : Option α := un_li ls fun cs0 rr => un_li rr fun cs1 rr => un_li rr fun l rr => un_i rr fun i rr => un_nil rr (L5 kx kr n cs0 cs1 l i)
def ref_Spread_d (L5 : ({β : Type} → (Nat → List Leaf → Option β) → (List Leaf → Option β) → Nat → List Int → List Int → List Int → Int → Option β)) (cs0 : List Int) (cs1 : List Int) : Option (List Leaf) :=
  chk (decide (Int.ofNat (List.length cs0) = Int.ofNat (List.length cs0)) && true) <|
  out (ref_MayCells cs0 cs1) fun r1351 =>
  un_b r1351 fun x1352 r1353 =>
  un_nil r1353 <|
  br (!x1352)
    (chk (decide ((0 : Int) = Int.ofNat (0 : Nat)) && true) <|
     some [.li ([])])
    (chk (decide (Int.ofNat (List.length cs0) = Int.ofNat (List.length cs0)) && (decide ((0 : Int) = Int.ofNat (0 : Nat)) && true)) <|
     L5
       (fun i1354 r1355 =>
        br (Nat.beq 0 i1354)
          (un_li r1355 fun x1356 r1357 =>
           un_li r1357 fun x1358 r1359 =>
           un_li r1359 fun x1360 r1361 =>
           un_nil r1361 <|
           chk (decide (Int.ofNat (List.length x1360) = Int.ofNat (List.length x1360)) && true) <|
           some [.li (x1360)])
          (none))
       (fun r1362 =>
        un_nil r1362 <|
        none)
       top (cs0) (cs1) ([]) (0))
def ref_Spread (cs0 : List Int) (cs1 : List Int) : Option (List Leaf) := ref_Spread_d @ref_Spread_5_L cs0 cs1
def SentUnknown_7_B  {α : Type} (kx : Nat → List Leaf → Option α) (kr : List Leaf → Option α) (again : List Int → List Int → List Int → List Int → List Int → Int → Bool → Int → Int → Int → Int → Option α) (cells0 : List Int) (cells1 : List Int) (s_l0 : List Int) (s_l1 : List Int) (s_l2 : List Int) (s_last : Int) (s_any : Bool) (i : Int) (first : Int) (n2 : Int) (off : Int) : Option α :=
  br (decide (i < n2))
    (out (ref_Step first i) fun r1395 =>
     un_i r1395 fun x1396 r1397 =>
     un_nil r1397 <|
     chk (decide (Int.ofNat (List.length s_l0) = Int.ofNat (List.length s_l0)) && true && true) <|
     out (sent_Put s_l0 s_l1 s_l2 s_last s_any x1396 0) fun r1398 =>
     un_li r1398 fun x1399 r1400 =>
     un_li r1400 fun x1401 r1402 =>
     un_li r1402 fun x1403 r1404 =>
     un_i r1404 fun x1405 r1406 =>
     un_b r1406 fun x1407 r1408 =>
     un_b r1408 fun x1409 r1410 =>
     un_nil r1410 <|
     one (addI .i64 i 1) fun x1411 =>
     chk (decide (Int.ofNat (List.length x1399) = Int.ofNat (List.length x1399)) && true && true) <|
     chk (decide (Int.ofNat (List.length cells0) = Int.ofNat (List.length cells0)) && true) <|
     again (cells0) (cells1) (x1399) (x1401) (x1403) (x1405) (x1407) (x1411) (first) (n2) (off))
    (chk (decide (Int.ofNat (List.length s_l0) = Int.ofNat (List.length s_l0)) && true && true) <|
     chk (decide (Int.ofNat (List.length cells0) = Int.ofNat (List.length cells0)) && true) <|
     kx 0 [.li (cells0), .li (cells1), .li (s_l0), .li (s_l1), .li (s_l2), .i (s_last), .b (s_any), .i (n2), .i (first), .i (off)])
def SentUnknown_7_L {α : Type} (kx : Nat → List Leaf → Option α) (kr : List Leaf → Option α) : Nat → List Int → List Int → List Int → List Int → List Int → Int → Bool → Int → Int → Int → Int → Option α
  | 0, _, _, _, _, _, _, _, _, _, _, _ => none
  | n + 1, cells0, cells1, s_l0, s_l1, s_l2, s_last, s_any, i, first, n2, off => SentUnknown_7_B  kx kr (SentUnknown_7_L kx kr n) cells0 cells1 s_l0 s_l1 s_l2 s_last s_any i first n2 off
def SentUnknown_7_F (L7 : ({β : Type} → (Nat → List Leaf → Option β) → (List Leaf → Option β) → Nat → List Int → List Int → List Int → List Int → List Int → Int → Bool → Int → Int → Int → Int → Option β)) {α : Type} (n : Nat) (ls : List Leaf) (kx : Nat → List Leaf → Option α) (kr : List Leaf → Option α) : Option α := un_li ls fun cells0 rr => un_li rr fun cells1 rr => un_li rr fun s_l0 rr => un_li rr fun s_l1 rr => un_li rr fun s_l2 rr => un_i rr fun s_last rr => un_b rr fun s_any rr => un_i rr fun i rr => un_i rr fun first rr => un_i rr fun n2 rr => un_i rr fun off rr => un_nil rr (L7 kx kr n cells0 cells1 s_l0 s_l1 s_l2 s_last s_any i first n2 off)
def SentUnknown_d (L7 : ({β : Type} → (Nat → List Leaf → Option β) → (List Leaf → Option β) → Nat → List Int → List Int → List Int → List Int → List Int → Int → Bool → Int → Int → Int → Int → Option β)) (cells0 : List Int) (cells1 : List Int) (first : Int) (n2 : Int) (off : Int) : Option (List Leaf) :=
  one (remI .i64 n2 20) fun x1412 =>
  one (addI .i64 x1412 20) fun x1413 =>
  one (remI .i64 x1413 20) fun x1414 =>
  one (addI .i64 1 x1414) fun x1415 =>
  out (sent_New) fun r1416 =>
  un_li r1416 fun x1417 r1418 =>
  un_li r1418 fun x1419 r1420 =>
  un_li r1420 fun x1421 r1422 =>
  un_i r1422 fun x1423 r1424 =>
  un_b r1424 fun x1425 r1426 =>
  un_nil r1426 <|
  chk (decide (Int.ofNat (List.length x1417) = Int.ofNat (List.length x1417)) && true && true) <|
  chk (decide (Int.ofNat (List.length cells0) = Int.ofNat (List.length cells0)) && true) <|
  L7
    (fun i1427 r1428 =>
     br (Nat.beq 0 i1427)
       (un_li r1428 fun x1429 r1430 =>
        un_li r1430 fun x1431 r1432 =>
        un_li r1432 fun x1433 r1434 =>
        un_li r1434 fun x1435 r1436 =>
        un_li r1436 fun x1437 r1438 =>
        un_i r1438 fun x1439 r1440 =>
        un_b r1440 fun x1441 r1442 =>
        un_i r1442 fun x1443 r1444 =>
        un_i r1444 fun x1445 r1446 =>
        un_i r1446 fun x1447 r1448 =>
        un_nil r1448 <|
        one (remI .i64 x1447 1099511627776) fun x1449 =>
        br (decide (x1449 ≥ 0))
          (one (addI .i64 2000 x1449) fun x1450 =>
           one (Int.ofNat (List.length x1429)) fun x1451 =>
           one (minI x1451 20) fun x1452 =>
           chk (condSl (rlOf [[Col.int .i64 x1429, Col.int .i64 x1431], [], [Col.int .u64 x1433, Col.int .i64 x1435, Col.int .i64 x1437]] (0 : Nat)) Option.none (Option.some x1452)) <|
           out (ref_Step x1445 x1450) fun r1453 =>
           un_i r1453 fun x1454 r1455 =>
           un_nil r1455 <|
           chk (decide (Int.ofNat (nat_lit 0) + x1452 ≤ Int.ofNat (List.length x1429))) <|
           chk (decide (Int.ofNat (List.length x1433) = Int.ofNat (List.length x1433)) && true && true) <|
           chk (decide (x1452 = Int.ofNat (List.length (List.take (Int.toNat x1452) (List.drop (Int.toNat (Int.ofNat (nat_lit 0))) x1429)))) && true) <|
           out (sent_Hear x1433 x1435 x1437 (List.take (Int.toNat x1452) (List.drop (Int.toNat (Int.ofNat 0)) x1429)) (List.take (Int.toNat x1452) (List.drop (Int.toNat (Int.ofNat 0)) x1431)) x1439 x1441 x1454 5) fun r1456 =>
           un_li r1456 fun x1457 r1458 =>
           un_li r1458 fun x1459 r1460 =>
           un_li r1460 fun x1461 r1462 =>
           un_li r1462 fun x1463 r1464 =>
           un_li r1464 fun x1465 r1466 =>
           un_li r1466 fun x1467 r1468 =>
           un_i r1468 fun x1469 r1470 =>
           un_b r1470 fun x1471 r1472 =>
           un_i r1472 fun x1473 r1474 =>
           un_i r1474 fun x1475 r1476 =>
           un_nil r1476 <|
           br (decide (x1450 ≥ 2000))
             (chk (decide (Int.ofNat (nat_lit 0) + x1452 ≤ Int.ofNat (List.length x1429))) <|
              chk (decide (x1452 = Int.ofNat (List.length (List.take (Int.toNat x1452) (List.drop (Int.toNat (Int.ofNat (nat_lit 0))) x1429)))) && true) <|
              out (ref_Spread (List.take (Int.toNat x1452) (List.drop (Int.toNat (Int.ofNat 0)) x1429)) (List.take (Int.toNat x1452) (List.drop (Int.toNat (Int.ofNat 0)) x1431))) fun r1477 =>
              un_li r1477 fun x1478 r1479 =>
              un_nil r1479 <|
              one (Int.ofNat (List.length x1478)) fun x1480 =>
              br (decide (x1480 > 1000))
                (some [.b (false)])
                (one (Int.ofNat (List.length x1463)) fun x1481 =>
                 br (x1481 == 0)
                   (one (Int.ofNat (List.length x1467)) fun x1482 =>
                    br (x1482 == 0)
                      (br (x1475 == -1)
                         (chk (decide (Int.ofNat (List.length x1457) = Int.ofNat (List.length x1457)) && true && true) <|
                          out (sent_Out x1457 x1459 x1461 x1469 x1471) fun r1483 =>
                          un_i r1483 fun x1484 r1485 =>
                          un_nil r1485 <|
                          some [.b (x1484 == x1443)])
                         (some [.b (false)]))
                      (some [.b (false)]))
                   (some [.b (false)])))
             (one (Int.ofNat (List.length x1463)) fun x1486 =>
              br (x1486 == 0)
                (one (Int.ofNat (List.length x1467)) fun x1487 =>
                 br (x1487 == 0)
                   (br (x1475 == -1)
                      (chk (decide (Int.ofNat (List.length x1457) = Int.ofNat (List.length x1457)) && true && true) <|
                       out (sent_Out x1457 x1459 x1461 x1469 x1471) fun r1488 =>
                       un_i r1488 fun x1489 r1490 =>
                       un_nil r1490 <|
                       some [.b (x1489 == x1443)])
                      (some [.b (false)]))
                   (some [.b (false)]))
                (some [.b (false)])))
          (one (subI .i64 x1449 1) fun x1491 =>
           out (ref_Step x1445 x1491) fun r1492 =>
           un_i r1492 fun x1493 r1494 =>
           un_nil r1494 <|
           chk (decide (Int.ofNat (List.length x1433) = Int.ofNat (List.length x1433)) && true && true) <|
           chk (decide (Int.ofNat (List.length x1429) = Int.ofNat (List.length x1429)) && true) <|
           out (sent_Hear x1433 x1435 x1437 x1429 x1431 x1439 x1441 x1493 5) fun r1495 =>
           un_li r1495 fun x1496 r1497 =>
           un_li r1497 fun x1498 r1499 =>
           un_li r1499 fun x1500 r1501 =>
           un_li r1501 fun x1502 r1503 =>
           un_li r1503 fun x1504 r1505 =>
           un_li r1505 fun x1506 r1507 =>
           un_i r1507 fun x1508 r1509 =>
           un_b r1509 fun x1510 r1511 =>
           un_i r1511 fun x1512 r1513 =>
           un_i r1513 fun x1514 r1515 =>
           un_nil r1515 <|
           br (decide (x1491 ≥ 2000))
             (chk (decide (Int.ofNat (List.length x1429) = Int.ofNat (List.length x1429)) && true) <|
              out (ref_Spread x1429 x1431) fun r1516 =>
              un_li r1516 fun x1517 r1518 =>
              un_nil r1518 <|
              one (Int.ofNat (List.length x1517)) fun x1519 =>
              br (decide (x1519 > 1000))
                (some [.b (false)])
                (one (Int.ofNat (List.length x1502)) fun x1520 =>
                 br (x1520 == 0)
                   (one (Int.ofNat (List.length x1506)) fun x1521 =>
                    br (x1521 == 0)
                      (br (x1514 == -1)
                         (chk (decide (Int.ofNat (List.length x1496) = Int.ofNat (List.length x1496)) && true && true) <|
                          out (sent_Out x1496 x1498 x1500 x1508 x1510) fun r1522 =>
                          un_i r1522 fun x1523 r1524 =>
                          un_nil r1524 <|
                          some [.b (x1523 == x1443)])
                         (some [.b (false)]))
                      (some [.b (false)]))
                   (some [.b (false)])))
             (one (Int.ofNat (List.length x1502)) fun x1525 =>
              br (x1525 == 0)
                (one (Int.ofNat (List.length x1506)) fun x1526 =>
                 br (x1526 == 0)
                   (br (x1514 == -1)
                      (chk (decide (Int.ofNat (List.length x1496) = Int.ofNat (List.length x1496)) && true && true) <|
                       out (sent_Out x1496 x1498 x1500 x1508 x1510) fun r1527 =>
                       un_i r1527 fun x1528 r1529 =>
                       un_nil r1529 <|
                       some [.b (x1528 == x1443)])
                      (some [.b (false)]))
                   (some [.b (false)]))
                (some [.b (false)]))))
       (none))
    (fun r1530 =>
     un_nil r1530 <|
     none)
    top (cells0) (cells1) (x1417) (x1419) (x1421) (x1423) (x1425) (0) (first) (x1415) (off)
def SentUnknown (cells0 : List Int) (cells1 : List Int) (first : Int) (n2 : Int) (off : Int) : Option (List Leaf) := SentUnknown_d @SentUnknown_7_L cells0 cells1 first n2 off
end Go.Sx.T

