import Derived.Test.YtopcljhdejindaaGreatDoorYTfrcSpec
set_option linter.all false
namespace Go.Sx.T
open Go Go.Sx
def TfrcLimited (size : Int) (r : Int) (x : Int) (y : Int) (p : Int) : Option (List Leaf) :=
  one (remI .i64 size 1400) fun x1596 =>
  one (addI .i64 x1596 1400) fun x1597 =>
  one (remI .i64 x1597 1400) fun x1598 =>
  one (addI .i64 1 x1598) fun x1599 =>
  one (minI r 1048576) fun x1600 =>
  one (maxI 0 x1600) fun x1601 =>
  one (addI .i64 1000 x1601) fun x1602 =>
  one (remI .u64 x 1099511627776) fun x1603 =>
  one (addI .u64 1 x1603) fun x1604 =>
  one (remI .u64 y 1099511627776) fun x1605 =>
  one (remI .u64 p 2147483648) fun x1606 =>
  one (addI .u64 1 x1606) fun x1607 =>
  out (tfrc_New x1599) fun r1608 =>
  un_li r1608 fun x1609 r1610 =>
  un_li r1610 fun x1611 r1612 =>
  un_i r1612 fun x1613 r1614 =>
  un_i r1614 fun x1615 r1616 =>
  un_i r1616 fun x1617 r1618 =>
  un_i r1618 fun x1619 r1620 =>
  un_b r1620 fun x1621 r1622 =>
  un_i r1622 fun x1623 r1624 =>
  un_b r1624 fun x1625 r1626 =>
  un_b r1626 fun x1627 r1628 =>
  un_i r1628 fun x1629 r1630 =>
  un_nil r1630 <|
  chk (decide (Int.ofNat (List.length x1609) = Int.ofNat (List.length x1609)) && true && true) <|
  out (tfrc_Hear x1609 x1611 x1613 x1615 x1617 x1619 x1621 x1623 x1625 x1627 x1629 0 x1602 1 0 false) fun r1631 =>
  un_li r1631 fun x1632 r1633 =>
  un_li r1633 fun x1634 r1635 =>
  un_i r1635 fun x1636 r1637 =>
  un_i r1637 fun x1638 r1639 =>
  un_i r1639 fun x1640 r1641 =>
  un_i r1641 fun x1642 r1643 =>
  un_b r1643 fun x1644 r1645 =>
  un_i r1645 fun x1646 r1647 =>
  un_b r1647 fun x1648 r1649 =>
  un_b r1649 fun x1650 r1651 =>
  un_i r1651 fun x1652 r1653 =>
  un_nil r1653 <|
  one (mulI .i64 3 x1602) fun x1654 =>
  one (addI .i64 x1654 1) fun x1655 =>
  chk (decide (Int.ofNat (List.length x1632) = Int.ofNat (List.length x1632)) && true && true) <|
  out (tfrc_Hear x1632 x1634 x1636 x1638 x1640 x1642 x1644 x1646 x1648 x1650 x1652 x1655 x1602 x1604 0 true) fun r1656 =>
  un_li r1656 fun x1657 r1658 =>
  un_li r1658 fun x1659 r1660 =>
  un_i r1660 fun x1661 r1662 =>
  un_i r1662 fun x1663 r1664 =>
  un_i r1664 fun x1665 r1666 =>
  un_i r1666 fun x1667 r1668 =>
  un_b r1668 fun x1669 r1670 =>
  un_i r1670 fun x1671 r1672 =>
  un_b r1672 fun x1673 r1674 =>
  un_b r1674 fun x1675 r1676 =>
  un_i r1676 fun x1677 r1678 =>
  un_nil r1678 <|
  one (maxI x1604 1) fun x1679 =>
  chk (decide (Int.ofNat (List.length x1657) = Int.ofNat (List.length x1657)) && true && true) <|
  out (tfrc_Top x1657 x1659 x1661 x1663 x1665 x1667 x1669 x1671 x1673 x1675 x1677) fun r1680 =>
  un_i r1680 fun x1681 r1682 =>
  un_nil r1682 <|
  br (x1681 != x1679)
    (some [.b (false)])
    (one (mulI .i64 6 x1602) fun x1683 =>
     one (addI .i64 x1683 2) fun x1684 =>
     chk (decide (Int.ofNat (List.length x1657) = Int.ofNat (List.length x1657)) && true && true) <|
     out (tfrc_Hear x1657 x1659 x1661 x1663 x1665 x1667 x1669 x1671 x1673 x1675 x1677 x1684 x1602 x1605 x1607 true) fun r1685 =>
     un_li r1685 fun x1686 r1687 =>
     un_li r1687 fun x1688 r1689 =>
     un_i r1689 fun x1690 r1691 =>
     un_i r1691 fun x1692 r1693 =>
     un_i r1693 fun x1694 r1695 =>
     un_i r1695 fun x1696 r1697 =>
     un_b r1697 fun x1698 r1699 =>
     un_i r1699 fun x1700 r1701 =>
     un_b r1701 fun x1702 r1703 =>
     un_b r1703 fun x1704 r1705 =>
     un_i r1705 fun x1706 r1707 =>
     un_nil r1707 <|
     one (quoI .u64 x1679 2) fun x1708 =>
     one (mulI .u64 x1605 17) fun x1709 =>
     one (quoI .u64 x1709 20) fun x1710 =>
     one (maxI x1708 x1710) fun x1711 =>
     chk (decide (Int.ofNat (List.length x1686) = Int.ofNat (List.length x1686)) && true && true) <|
     out (tfrc_Top x1686 x1688 x1690 x1692 x1694 x1696 x1698 x1700 x1702 x1704 x1706) fun r1712 =>
     un_i r1712 fun x1713 r1714 =>
     un_nil r1714 <|
     br (x1713 == x1711)
       (chk (decide (Int.ofNat (List.length x1686) = Int.ofNat (List.length x1686)) && true && true) <|
        out (tfrc_Rate x1686 x1688 x1690 x1692 x1694 x1696 x1698 x1700 x1702 x1704 x1706) fun r1715 =>
        un_i r1715 fun x1716 r1717 =>
        un_nil r1717 <|
        one (wrapI .u64 x1599) fun x1718 =>
        one (wrapI .u64 x1599) fun x1719 =>
        one (wrapI .u64 x1602) fun x1720 =>
        out (ref_Rate x1719 x1720 x1607) fun r1721 =>
        un_i r1721 fun x1722 r1723 =>
        un_nil r1723 <|
        one (minI x1711 x1722) fun x1724 =>
        one (maxI x1718 x1724) fun x1725 =>
        br (x1716 == x1725)
          (chk (decide (Int.ofNat (List.length x1686) = Int.ofNat (List.length x1686)) && true && true) <|
           out (tfrc_Loss x1686 x1688 x1690 x1692 x1694 x1696 x1698 x1700 x1702 x1704 x1706) fun r1726 =>
           un_i r1726 fun x1727 r1728 =>
           un_nil r1728 <|
           some [.b (x1727 == x1607)])
          (some [.b (false)]))
       (some [.b (false)]))
end Go.Sx.T

