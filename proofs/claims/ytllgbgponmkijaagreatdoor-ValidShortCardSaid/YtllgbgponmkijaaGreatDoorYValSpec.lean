import Derived.Test.YtllgbgponmkijaaGreatDoorYFixSpec
set_option linter.all false
namespace Go.Sx.T
open Go Go.Sx
def seq_Max_2_B  {α : Type} (kx : Nat → List Leaf → Option α) (kr : List Leaf → Option α) (again : List Int → Int → Int → Int → Option α) (more : List Int) (t9 : Int) (s : Int) (t8 : Int) : Option α :=
  br (decide (t9 < t8))
    (chk (decide ((0 : Int) ≤ t9 ∧ t9 < Int.ofNat (List.length more))) <|
     chk (decide ((0 : Int) ≤ t9 ∧ t9 < Int.ofNat (List.length more))) <|
     out (seq_Less s (List.getD more (Int.toNat t9) 0)) fun r1380 =>
     un_b r1380 fun x1381 r1382 =>
     un_nil r1382 <|
     br (x1381)
       (one (addI .i64 t9 1) fun x1383 =>
        chk (decide (Int.ofNat (List.length more) = Int.ofNat (List.length more)) && true) <|
        again (more) (x1383) (List.getD more (Int.toNat t9) 0) (t8))
       (one (addI .i64 t9 1) fun x1384 =>
        chk (decide (Int.ofNat (List.length more) = Int.ofNat (List.length more)) && true) <|
        again (more) (x1384) (s) (t8)))
    (kx 0 [.li (more), .i (s)])
def seq_Max_2_L {α : Type} (kx : Nat → List Leaf → Option α) (kr : List Leaf → Option α) : Nat → List Int → Int → Int → Int → Option α
  | 0, _, _, _, _ => none
  | n + 1, more, t9, s, t8 => seq_Max_2_B  kx kr (seq_Max_2_L kx kr n) more t9 s t8
def seq_Max_2_F (L2 : ({β : Type} → (Nat → List Leaf → Option β) → (List Leaf → Option β) → Nat → List Int → Int → Int → Int → Option β)) {α : Type} (n : Nat) (ls : List Leaf) (kx : Nat → List Leaf → Option α) (kr : List Leaf → Option α) : Option α := un_li ls fun more rr => un_i rr fun t9 rr => un_i rr fun s rr => un_i rr fun t8 rr => un_nil rr (L2 kx kr n more t9 s t8)
def seq_Max_d (L2 : ({β : Type} → (Nat → List Leaf → Option β) → (List Leaf → Option β) → Nat → List Int → Int → Int → Int → Option β)) (more : List Int) (s : Int) : Option (List Leaf) :=
  one (Int.ofNat (List.length more)) fun x1385 =>
  chk (decide (Int.ofNat (List.length more) = Int.ofNat (List.length more)) && true) <|
  L2
    (fun i1386 r1387 =>
     br (Nat.beq 0 i1386)
       (un_li r1387 fun x1388 r1389 =>
        un_i r1389 fun x1390 r1391 =>
        un_nil r1391 <|
        out (seq_Of x1390) fun r1392 =>
        un_i r1392 fun x1393 r1394 =>
        un_nil r1394 <|
        some [.i (x1393)])
       (none))
    (fun r1395 =>
     un_nil r1395 <|
     none)
    top (more) (0) (s) (x1385)
def seq_Max (more : List Int) (s : Int) : Option (List Leaf) := seq_Max_d @seq_Max_2_L more s
def seq_In (low : Int) (s : Int) (high : Int) : Option (List Leaf) :=
  one (subI .u64 s low) fun x1396 =>
  out (seq_Of x1396) fun r1397 =>
  un_i r1397 fun x1398 r1399 =>
  un_nil r1399 <|
  one (subI .u64 high low) fun x1400 =>
  out (seq_Of x1400) fun r1401 =>
  un_i r1401 fun x1402 r1403 =>
  un_nil r1403 <|
  some [.b (decide (x1398 ≤ x1402))]
def seq_Long (short : Int) (near : Int) : Option (List Leaf) :=
  one (wrapI .u64 short) fun x1404 =>
  one (subI .u64 x1404 near) fun x1405 =>
  one (andI .u64 x1405 16777215) fun x1406 =>
  one (wrapI .i64 x1406) fun x1407 =>
  br (decide (x1407 ≥ 8388608))
    (one (subI .i64 x1407 16777216) fun x1408 =>
     out (seq_Add near x1408) fun r1409 =>
     un_i r1409 fun x1410 r1411 =>
     un_nil r1411 <|
     some [.i (x1410)])
    (out (seq_Add near x1407) fun r1412 =>
     un_i r1412 fun x1413 r1414 =>
     un_nil r1414 <|
     some [.i (x1413)])
def head_is (t : Int) : Option (List Leaf) :=
  br (decide (t ≥ 0))
    (some [.b (decide (t ≤ 9))])
    (some [.b (false)])
def head_HasAck (t : Int) : Option (List Leaf) :=
  out (head_is t) fun r1415 =>
  un_b r1415 fun x1416 r1417 =>
  un_nil r1417 <|
  br (x1416)
    (br (t != 0)
       (some [.b (t != 2)])
       (some [.b (false)]))
    (some [.b (false)])
def valid_Windows (v_State : Int) (v_Gss : Int) (v_Gsr : Int) (v_Gar : Int) (v_Iss : Int) (v_Isr : Int) (v_Mine : Int) (v_Theirs : Int) : Option (List Leaf) :=
  one (maxI v_Mine 32) fun x1418 =>
  one (minI x1418 1000) fun x1419 =>
  one (maxI v_Theirs 32) fun x1420 =>
  one (minI x1420 1000) fun x1421 =>
  one (quoI .i64 x1421 4) fun x1422 =>
  one (subI .i64 1 x1422) fun x1423 =>
  out (seq_Add v_Gsr x1423) fun r1424 =>
  un_i r1424 fun x1425 r1426 =>
  un_nil r1426 <|
  chk (decide ((↑(1 : Nat) : Int) = Int.ofNat (List.length [v_Isr])) && true) <|
  out (seq_Max [v_Isr] x1425) fun r1427 =>
  un_i r1427 fun x1428 r1429 =>
  un_nil r1429 <|
  one (mulI .i64 3 x1421) fun x1430 =>
  one (quoI .i64 x1430 4) fun x1431 =>
  out (seq_Add v_Gsr x1431) fun r1432 =>
  un_i r1432 fun x1433 r1434 =>
  un_nil r1434 <|
  one (subI .i64 1 x1419) fun x1435 =>
  out (seq_Add v_Gss x1435) fun r1436 =>
  un_i r1436 fun x1437 r1438 =>
  un_nil r1438 <|
  chk (decide ((↑(1 : Nat) : Int) = Int.ofNat (List.length [v_Iss])) && true) <|
  out (seq_Max [v_Iss] x1437) fun r1439 =>
  un_i r1439 fun x1440 r1441 =>
  un_nil r1441 <|
  out (seq_Of v_Gss) fun r1442 =>
  un_i r1442 fun x1443 r1444 =>
  un_nil r1444 <|
  some [.i (x1428), .i (x1433), .i (x1440), .i (x1443)]
def valid_Long (v_State : Int) (v_Gss : Int) (v_Gsr : Int) (v_Gar : Int) (v_Iss : Int) (v_Isr : Int) (v_Mine : Int) (v_Theirs : Int) (p_Head_Src : Int) (p_Head_Dst : Int) (p_Head_Off : Int) (p_Head_CCVal : Int) (p_Head_CsCov : Int) (p_Head_Sum : Int) (p_Head_Type : Int) (p_Head_X : Bool) (p_Head_Seq : Int) (p_Head_Ack : Int) (p_Head_Service : Int) (p_Head_Code : Int) (p_Head_Info_0 : Int) (p_Head_Info_1 : Int) (p_Head_Info_2 : Int) (p_Data : ByteArray) : Option (List Leaf) :=
  br (p_Head_X)
    (some [.i (p_Head_Src), .i (p_Head_Dst), .i (p_Head_Off), .i (p_Head_CCVal), .i (p_Head_CsCov), .i (p_Head_Sum), .i (p_Head_Type), .b (p_Head_X), .i (p_Head_Seq), .i (p_Head_Ack), .i (p_Head_Service), .i (p_Head_Code), .i (p_Head_Info_0), .i (p_Head_Info_1), .i (p_Head_Info_2), .s (p_Data)])
    (one (wrapI .u32 p_Head_Seq) fun x1445 =>
     out (seq_Long x1445 v_Gsr) fun r1446 =>
     un_i r1446 fun x1447 r1448 =>
     un_nil r1448 <|
     out (head_HasAck p_Head_Type) fun r1449 =>
     un_b r1449 fun x1450 r1451 =>
     un_nil r1451 <|
     br (x1450)
       (one (wrapI .u32 p_Head_Ack) fun x1452 =>
        out (seq_Long x1452 v_Gss) fun r1453 =>
        un_i r1453 fun x1454 r1455 =>
        un_nil r1455 <|
        some [.i (p_Head_Src), .i (p_Head_Dst), .i (p_Head_Off), .i (p_Head_CCVal), .i (p_Head_CsCov), .i (p_Head_Sum), .i (p_Head_Type), .b (true), .i (x1447), .i (x1454), .i (p_Head_Service), .i (p_Head_Code), .i (p_Head_Info_0), .i (p_Head_Info_1), .i (p_Head_Info_2), .s (p_Data)])
       (some [.i (p_Head_Src), .i (p_Head_Dst), .i (p_Head_Off), .i (p_Head_CCVal), .i (p_Head_CsCov), .i (p_Head_Sum), .i (p_Head_Type), .b (true), .i (x1447), .i (p_Head_Ack), .i (p_Head_Service), .i (p_Head_Code), .i (p_Head_Info_0), .i (p_Head_Info_1), .i (p_Head_Info_2), .s (p_Data)]))
def valid_judge (v_State : Int) (v_Gss : Int) (v_Gsr : Int) (v_Gar : Int) (v_Iss : Int) (v_Isr : Int) (v_Mine : Int) (v_Theirs : Int) (h_Src : Int) (h_Dst : Int) (h_Off : Int) (h_CCVal : Int) (h_CsCov : Int) (h_Sum : Int) (h_Type : Int) (h_X : Bool) (h_Seq : Int) (h_Ack : Int) (h_Service : Int) (h_Code : Int) (h_Info_0 : Int) (h_Info_1 : Int) (h_Info_2 : Int) : Option (List Leaf) :=
  out (valid_Windows v_State v_Gss v_Gsr v_Gar v_Iss v_Isr v_Mine v_Theirs) fun r1456 =>
  un_i r1456 fun x1457 r1458 =>
  un_i r1458 fun x1459 r1460 =>
  un_i r1460 fun x1461 r1462 =>
  un_i r1462 fun x1463 r1464 =>
  un_nil r1464 <|
  out (seq_In x1457 h_Seq x1459) fun r1465 =>
  un_b r1465 fun x1466 r1467 =>
  un_nil r1467 <|
  out (seq_In x1461 h_Ack x1463) fun r1468 =>
  un_b r1468 fun x1469 r1470 =>
  un_nil r1470 <|
  br (h_Type == 0)
    (br (v_State == 3)
       (some [.b (x1466)])
       (some [.b (false)]))
    (br (h_Type == 2)
       (some [.b (x1466)])
       (br (h_Type == 3)
          (br (h_Type == 3)
             (br (x1466)
                (some [.b (x1469)])
                (some [.b (false)]))
             (br (h_Type == 5)
                (br (h_Type == 5)
                   (out (seq_Add v_Gsr 1) fun r1471 =>
                    un_i r1471 fun x1472 r1473 =>
                    un_nil r1473 <|
                    out (seq_In x1472 h_Seq x1459) fun r1474 =>
                    un_b r1474 fun x1475 r1476 =>
                    un_nil r1476 <|
                    br (x1475)
                      (out (seq_In v_Gar h_Ack x1463) fun r1477 =>
                       un_b r1477 fun x1478 r1479 =>
                       un_nil r1479 <|
                       some [.b (x1478)])
                      (some [.b (false)]))
                   (br (h_Type == 8)
                      (br (h_Type == 8)
                         (out (seq_Less h_Seq x1457) fun r1480 =>
                          un_b r1480 fun x1481 r1482 =>
                          un_nil r1482 <|
                          br (!x1481)
                            (some [.b (x1469)])
                            (some [.b (false)]))
                         (some [.b (false)]))
                      (br (h_Type == 9)
                         (out (seq_Less h_Seq x1457) fun r1483 =>
                          un_b r1483 fun x1484 r1485 =>
                          un_nil r1485 <|
                          br (!x1484)
                            (some [.b (x1469)])
                            (some [.b (false)]))
                         (some [.b (false)]))))
                (br (h_Type == 6)
                   (br (h_Type == 6)
                      (out (seq_Add v_Gsr 1) fun r1486 =>
                       un_i r1486 fun x1487 r1488 =>
                       un_nil r1488 <|
                       out (seq_In x1487 h_Seq x1459) fun r1489 =>
                       un_b r1489 fun x1490 r1491 =>
                       un_nil r1491 <|
                       br (x1490)
                         (out (seq_In v_Gar h_Ack x1463) fun r1492 =>
                          un_b r1492 fun x1493 r1494 =>
                          un_nil r1494 <|
                          some [.b (x1493)])
                         (some [.b (false)]))
                      (br (h_Type == 8)
                         (br (h_Type == 8)
                            (out (seq_Less h_Seq x1457) fun r1495 =>
                             un_b r1495 fun x1496 r1497 =>
                             un_nil r1497 <|
                             br (!x1496)
                               (some [.b (x1469)])
                               (some [.b (false)]))
                            (some [.b (false)]))
                         (br (h_Type == 9)
                            (out (seq_Less h_Seq x1457) fun r1498 =>
                             un_b r1498 fun x1499 r1500 =>
                             un_nil r1500 <|
                             br (!x1499)
                               (some [.b (x1469)])
                               (some [.b (false)]))
                            (some [.b (false)]))))
                   (br (h_Type == 7)
                      (out (seq_Add v_Gsr 1) fun r1501 =>
                       un_i r1501 fun x1502 r1503 =>
                       un_nil r1503 <|
                       out (seq_In x1502 h_Seq x1459) fun r1504 =>
                       un_b r1504 fun x1505 r1506 =>
                       un_nil r1506 <|
                       br (x1505)
                         (out (seq_In v_Gar h_Ack x1463) fun r1507 =>
                          un_b r1507 fun x1508 r1509 =>
                          un_nil r1509 <|
                          some [.b (x1508)])
                         (some [.b (false)]))
                      (br (h_Type == 8)
                         (br (h_Type == 8)
                            (out (seq_Less h_Seq x1457) fun r1510 =>
                             un_b r1510 fun x1511 r1512 =>
                             un_nil r1512 <|
                             br (!x1511)
                               (some [.b (x1469)])
                               (some [.b (false)]))
                            (some [.b (false)]))
                         (br (h_Type == 9)
                            (out (seq_Less h_Seq x1457) fun r1513 =>
                             un_b r1513 fun x1514 r1515 =>
                             un_nil r1515 <|
                             br (!x1514)
                               (some [.b (x1469)])
                               (some [.b (false)]))
                            (some [.b (false)])))))))
          (br (h_Type == 4)
             (br (x1466)
                (some [.b (x1469)])
                (some [.b (false)]))
             (br (h_Type == 5)
                (br (h_Type == 5)
                   (out (seq_Add v_Gsr 1) fun r1516 =>
                    un_i r1516 fun x1517 r1518 =>
                    un_nil r1518 <|
                    out (seq_In x1517 h_Seq x1459) fun r1519 =>
                    un_b r1519 fun x1520 r1521 =>
                    un_nil r1521 <|
                    br (x1520)
                      (out (seq_In v_Gar h_Ack x1463) fun r1522 =>
                       un_b r1522 fun x1523 r1524 =>
                       un_nil r1524 <|
                       some [.b (x1523)])
                      (some [.b (false)]))
                   (br (h_Type == 8)
                      (br (h_Type == 8)
                         (out (seq_Less h_Seq x1457) fun r1525 =>
                          un_b r1525 fun x1526 r1527 =>
                          un_nil r1527 <|
                          br (!x1526)
                            (some [.b (x1469)])
                            (some [.b (false)]))
                         (some [.b (false)]))
                      (br (h_Type == 9)
                         (out (seq_Less h_Seq x1457) fun r1528 =>
                          un_b r1528 fun x1529 r1530 =>
                          un_nil r1530 <|
                          br (!x1529)
                            (some [.b (x1469)])
                            (some [.b (false)]))
                         (some [.b (false)]))))
                (br (h_Type == 6)
                   (br (h_Type == 6)
                      (out (seq_Add v_Gsr 1) fun r1531 =>
                       un_i r1531 fun x1532 r1533 =>
                       un_nil r1533 <|
                       out (seq_In x1532 h_Seq x1459) fun r1534 =>
                       un_b r1534 fun x1535 r1536 =>
                       un_nil r1536 <|
                       br (x1535)
                         (out (seq_In v_Gar h_Ack x1463) fun r1537 =>
                          un_b r1537 fun x1538 r1539 =>
                          un_nil r1539 <|
                          some [.b (x1538)])
                         (some [.b (false)]))
                      (br (h_Type == 8)
                         (br (h_Type == 8)
                            (out (seq_Less h_Seq x1457) fun r1540 =>
                             un_b r1540 fun x1541 r1542 =>
                             un_nil r1542 <|
                             br (!x1541)
                               (some [.b (x1469)])
                               (some [.b (false)]))
                            (some [.b (false)]))
                         (br (h_Type == 9)
                            (out (seq_Less h_Seq x1457) fun r1543 =>
                             un_b r1543 fun x1544 r1545 =>
                             un_nil r1545 <|
                             br (!x1544)
                               (some [.b (x1469)])
                               (some [.b (false)]))
                            (some [.b (false)]))))
                   (br (h_Type == 7)
                      (out (seq_Add v_Gsr 1) fun r1546 =>
                       un_i r1546 fun x1547 r1548 =>
                       un_nil r1548 <|
                       out (seq_In x1547 h_Seq x1459) fun r1549 =>
                       un_b r1549 fun x1550 r1551 =>
                       un_nil r1551 <|
                       br (x1550)
                         (out (seq_In v_Gar h_Ack x1463) fun r1552 =>
                          un_b r1552 fun x1553 r1554 =>
                          un_nil r1554 <|
                          some [.b (x1553)])
                         (some [.b (false)]))
                      (br (h_Type == 8)
                         (br (h_Type == 8)
                            (out (seq_Less h_Seq x1457) fun r1555 =>
                             un_b r1555 fun x1556 r1557 =>
                             un_nil r1557 <|
                             br (!x1556)
                               (some [.b (x1469)])
                               (some [.b (false)]))
                            (some [.b (false)]))
                         (br (h_Type == 9)
                            (out (seq_Less h_Seq x1457) fun r1558 =>
                             un_b r1558 fun x1559 r1560 =>
                             un_nil r1560 <|
                             br (!x1559)
                               (some [.b (x1469)])
                               (some [.b (false)]))
                            (some [.b (false)])))))))))
def valid_Check (v_State : Int) (v_Gss : Int) (v_Gsr : Int) (v_Gar : Int) (v_Iss : Int) (v_Isr : Int) (v_Mine : Int) (v_Theirs : Int) (p_Head_Src : Int) (p_Head_Dst : Int) (p_Head_Off : Int) (p_Head_CCVal : Int) (p_Head_CsCov : Int) (p_Head_Sum : Int) (p_Head_Type : Int) (p_Head_X : Bool) (p_Head_Seq : Int) (p_Head_Ack : Int) (p_Head_Service : Int) (p_Head_Code : Int) (p_Head_Info_0 : Int) (p_Head_Info_1 : Int) (p_Head_Info_2 : Int) (p_Data : ByteArray) : Option (List Leaf) :=
  out (valid_Long v_State v_Gss v_Gsr v_Gar v_Iss v_Isr v_Mine v_Theirs p_Head_Src p_Head_Dst p_Head_Off p_Head_CCVal p_Head_CsCov p_Head_Sum p_Head_Type p_Head_X p_Head_Seq p_Head_Ack p_Head_Service p_Head_Code p_Head_Info_0 p_Head_Info_1 p_Head_Info_2 p_Data) fun r1561 =>
  un_i r1561 fun x1562 r1563 =>
  un_i r1563 fun x1564 r1565 =>
  un_i r1565 fun x1566 r1567 =>
  un_i r1567 fun x1568 r1569 =>
  un_i r1569 fun x1570 r1571 =>
  un_i r1571 fun x1572 r1573 =>
  un_i r1573 fun x1574 r1575 =>
  un_b r1575 fun x1576 r1577 =>
  un_i r1577 fun x1578 r1579 =>
  un_i r1579 fun x1580 r1581 =>
  un_i r1581 fun x1582 r1583 =>
  un_i r1583 fun x1584 r1585 =>
  un_i r1585 fun x1586 r1587 =>
  un_i r1587 fun x1588 r1589 =>
  un_i r1589 fun x1590 r1591 =>
  un_s r1591 fun x1592 r1593 =>
  un_nil r1593 <|
  br (v_State == 1)
    (br (x1574 == 0)
       (some [.i (1)])
       (some [.i (3)]))
    (br (v_State == 2)
       (out (valid_Windows v_State v_Gss v_Gsr v_Gar v_Iss v_Isr v_Mine v_Theirs) fun r1594 =>
        un_i r1594 fun x1595 r1596 =>
        un_i r1596 fun x1597 r1598 =>
        un_i r1598 fun x1599 r1600 =>
        un_i r1600 fun x1601 r1602 =>
        un_nil r1602 <|
        br (x1574 == 1)
          (out (seq_In x1599 x1580 x1601) fun r1603 =>
           un_b r1603 fun x1604 r1605 =>
           un_nil r1605 <|
           br (x1604)
             (some [.i (1)])
             (some [.i (3)]))
          (br (x1574 == 7)
             (out (seq_In x1599 x1580 x1601) fun r1606 =>
              un_b r1606 fun x1607 r1608 =>
              un_nil r1608 <|
              br (x1607)
                (some [.i (1)])
                (some [.i (3)]))
             (some [.i (3)])))
       (br (v_State == 0)
          (br (v_State == 0)
             (some [.i (3)])
             (out (valid_judge v_State v_Gss v_Gsr v_Gar v_Iss v_Isr v_Mine v_Theirs x1562 x1564 x1566 x1568 x1570 x1572 x1574 x1576 x1578 x1580 x1582 x1584 x1586 x1588 x1590) fun r1609 =>
              un_b r1609 fun x1610 r1611 =>
              un_nil r1611 <|
              br (!x1610)
                (br (x1574 != 8)
                   (br (x1574 != 9)
                      (some [.i (2)])
                      (out (valid_judge v_State v_Gss v_Gsr v_Gar v_Iss v_Isr v_Mine v_Theirs x1562 x1564 x1566 x1568 x1570 x1572 x1574 x1576 x1578 x1580 x1582 x1584 x1586 x1588 x1590) fun r1612 =>
                       un_b r1612 fun x1613 r1614 =>
                       un_nil r1614 <|
                       br (x1613)
                         (some [.i (1)])
                         (some [.i (3)])))
                   (out (valid_judge v_State v_Gss v_Gsr v_Gar v_Iss v_Isr v_Mine v_Theirs x1562 x1564 x1566 x1568 x1570 x1572 x1574 x1576 x1578 x1580 x1582 x1584 x1586 x1588 x1590) fun r1615 =>
                    un_b r1615 fun x1616 r1617 =>
                    un_nil r1617 <|
                    br (x1616)
                      (some [.i (1)])
                      (some [.i (3)])))
                (out (valid_judge v_State v_Gss v_Gsr v_Gar v_Iss v_Isr v_Mine v_Theirs x1562 x1564 x1566 x1568 x1570 x1572 x1574 x1576 x1578 x1580 x1582 x1584 x1586 x1588 x1590) fun r1618 =>
                 un_b r1618 fun x1619 r1620 =>
                 un_nil r1620 <|
                 br (x1619)
                   (some [.i (1)])
                   (some [.i (3)]))))
          (br (v_State == 8)
             (some [.i (3)])
             (out (valid_judge v_State v_Gss v_Gsr v_Gar v_Iss v_Isr v_Mine v_Theirs x1562 x1564 x1566 x1568 x1570 x1572 x1574 x1576 x1578 x1580 x1582 x1584 x1586 x1588 x1590) fun r1621 =>
              un_b r1621 fun x1622 r1623 =>
              un_nil r1623 <|
              br (!x1622)
                (br (x1574 != 8)
                   (br (x1574 != 9)
                      (some [.i (2)])
                      (out (valid_judge v_State v_Gss v_Gsr v_Gar v_Iss v_Isr v_Mine v_Theirs x1562 x1564 x1566 x1568 x1570 x1572 x1574 x1576 x1578 x1580 x1582 x1584 x1586 x1588 x1590) fun r1624 =>
                       un_b r1624 fun x1625 r1626 =>
                       un_nil r1626 <|
                       br (x1625)
                         (some [.i (1)])
                         (some [.i (3)])))
                   (out (valid_judge v_State v_Gss v_Gsr v_Gar v_Iss v_Isr v_Mine v_Theirs x1562 x1564 x1566 x1568 x1570 x1572 x1574 x1576 x1578 x1580 x1582 x1584 x1586 x1588 x1590) fun r1627 =>
                    un_b r1627 fun x1628 r1629 =>
                    un_nil r1629 <|
                    br (x1628)
                      (some [.i (1)])
                      (some [.i (3)])))
                (out (valid_judge v_State v_Gss v_Gsr v_Gar v_Iss v_Isr v_Mine v_Theirs x1562 x1564 x1566 x1568 x1570 x1572 x1574 x1576 x1578 x1580 x1582 x1584 x1586 x1588 x1590) fun r1630 =>
                 un_b r1630 fun x1631 r1632 =>
                 un_nil r1632 <|
                 br (x1631)
                   (some [.i (1)])
                   (some [.i (3)]))))))
def valid_Answer (v_State : Int) (v_Gss : Int) (v_Gsr : Int) (v_Gar : Int) (v_Iss : Int) (v_Isr : Int) (v_Mine : Int) (v_Theirs : Int) (p_Head_Src : Int) (p_Head_Dst : Int) (p_Head_Off : Int) (p_Head_CCVal : Int) (p_Head_CsCov : Int) (p_Head_Sum : Int) (p_Head_Type : Int) (p_Head_X : Bool) (p_Head_Seq : Int) (p_Head_Ack : Int) (p_Head_Service : Int) (p_Head_Code : Int) (p_Head_Info_0 : Int) (p_Head_Info_1 : Int) (p_Head_Info_2 : Int) (p_Data : ByteArray) : Option (List Leaf) :=
  out (valid_Check v_State v_Gss v_Gsr v_Gar v_Iss v_Isr v_Mine v_Theirs p_Head_Src p_Head_Dst p_Head_Off p_Head_CCVal p_Head_CsCov p_Head_Sum p_Head_Type p_Head_X p_Head_Seq p_Head_Ack p_Head_Service p_Head_Code p_Head_Info_0 p_Head_Info_1 p_Head_Info_2 p_Data) fun r1633 =>
  un_i r1633 fun x1634 r1635 =>
  un_nil r1635 <|
  br (x1634 != 2)
    (some [.i (0), .b (false)])
    (out (valid_Long v_State v_Gss v_Gsr v_Gar v_Iss v_Isr v_Mine v_Theirs p_Head_Src p_Head_Dst p_Head_Off p_Head_CCVal p_Head_CsCov p_Head_Sum p_Head_Type p_Head_X p_Head_Seq p_Head_Ack p_Head_Service p_Head_Code p_Head_Info_0 p_Head_Info_1 p_Head_Info_2 p_Data) fun r1636 =>
     un_i r1636 fun x1637 r1638 =>
     un_i r1638 fun x1639 r1640 =>
     un_i r1640 fun x1641 r1642 =>
     un_i r1642 fun x1643 r1644 =>
     un_i r1644 fun x1645 r1646 =>
     un_i r1646 fun x1647 r1648 =>
     un_i r1648 fun x1649 r1650 =>
     un_b r1650 fun x1651 r1652 =>
     un_i r1652 fun x1653 r1654 =>
     un_i r1654 fun x1655 r1656 =>
     un_i r1656 fun x1657 r1658 =>
     un_i r1658 fun x1659 r1660 =>
     un_i r1660 fun x1661 r1662 =>
     un_i r1662 fun x1663 r1664 =>
     un_i r1664 fun x1665 r1666 =>
     un_s r1666 fun x1667 r1668 =>
     un_nil r1668 <|
     br (x1649 == 7)
       (out (seq_Of v_Gsr) fun r1669 =>
        un_i r1669 fun x1670 r1671 =>
        un_nil r1671 <|
        some [.i (x1670), .b (true)])
       (some [.i (x1653), .b (true)]))
end Go.Sx.T

