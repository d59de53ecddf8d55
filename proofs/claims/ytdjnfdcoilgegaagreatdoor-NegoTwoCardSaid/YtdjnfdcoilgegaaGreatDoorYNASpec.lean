import Derived.Test.YtdjnfdcoilgegaaGreatDoorL6
import Derived.Test.YtdjnfdcoilgegaaGreatDoorYNegoSpec
import Derived.Test.YtdjnfdcoilgegaaGreatDoorYR18Spec
set_option linter.all false
namespace Go.Sx.T
open Go Go.Sx
def NegoAgain_10_B  {α : Type} (kx : Nat → List Leaf → Option α) (kr : List Leaf → Option α) (again : List Int → List ByteArray → List Int → List ByteArray → List Int → List ByteArray → List Int → List ByteArray → List Int → List ByteArray → List Int → List ByteArray → Bool → Int → ByteArray → ByteArray → Int → Bool → Int → Option α) (first0 : List Int) (first1 : List ByteArray) (n_want_k : List Int) (n_want_v : List ByteArray) (n_like_k : List Int) (n_like_v : List ByteArray) (n_mine_k : List Int) (n_mine_v : List ByteArray) (n_theirs_k : List Int) (n_theirs_v : List ByteArray) (n_due0 : List Int) (n_due1 : List ByteArray) (n_server : Bool) (i : Int) (one2 : ByteArray) (v : ByteArray) (f : Int) (server : Bool) (times : Int) : Option α :=
  one (remI .i64 times 4) fun x1571 =>
  one (addI .i64 x1571 4) fun x1572 =>
  one (remI .i64 x1572 4) fun x1573 =>
  br (decide (i ≤ x1573))
    (chk (Nat.ble (ByteArray.size one2 + ByteArray.size v) 9223372036854775807) <|
     chk (decide (Int.ofNat (List.length n_due0) = Int.ofNat (List.length n_due0)) && true && true) <|
     chk (decide ((↑(1 : Nat) : Int) = Int.ofNat (List.length [(32 : Int)])) && true) <|
     out (nego_Take n_want_k n_want_v n_like_k n_like_v n_mine_k n_mine_v n_theirs_k n_theirs_v n_due0 n_due1 [(32 : Int)] [one2 ++ v] n_server) fun r1574 =>
     un_li r1574 fun x1575 r1576 =>
     un_ls r1576 fun x1577 r1578 =>
     un_li r1578 fun x1579 r1580 =>
     un_ls r1580 fun x1581 r1582 =>
     un_li r1582 fun x1583 r1584 =>
     un_ls r1584 fun x1585 r1586 =>
     un_li r1586 fun x1587 r1588 =>
     un_ls r1588 fun x1589 r1590 =>
     un_li r1590 fun x1591 r1592 =>
     un_ls r1592 fun x1593 r1594 =>
     un_b r1594 fun x1595 r1596 =>
     un_b r1596 fun x1597 r1598 =>
     un_nil r1598 <|
     br (!x1597)
       (kr [.b (false)])
       (chk (decide (Int.ofNat (List.length x1591) = Int.ofNat (List.length x1591)) && true && true) <|
        out (nego_Opts x1575 x1577 x1579 x1581 x1583 x1585 x1587 x1589 x1591 x1593 x1595) fun r1599 =>
        un_li r1599 fun x1600 r1601 =>
        un_ls r1601 fun x1602 r1603 =>
        un_li r1603 fun x1604 r1605 =>
        un_ls r1605 fun x1606 r1607 =>
        un_li r1607 fun x1608 r1609 =>
        un_ls r1609 fun x1610 r1611 =>
        un_li r1611 fun x1612 r1613 =>
        un_ls r1613 fun x1614 r1615 =>
        un_li r1615 fun x1616 r1617 =>
        un_ls r1617 fun x1618 r1619 =>
        un_li r1619 fun x1620 r1621 =>
        un_ls r1621 fun x1622 r1623 =>
        un_b r1623 fun x1624 r1625 =>
        un_nil r1625 <|
        one (Int.ofNat (List.length x1620)) fun x1626 =>
        br (x1626 != 1)
          (kr [.b (false)])
          (chk (decide ((0 : Int) ≤ (0 : Int) ∧ (0 : Int) < Int.ofNat (List.length x1620))) <|
           chk (decide ((0 : Int) ≤ Int.ofNat (nat_lit 0) ∧ Int.ofNat (nat_lit 0) < Int.ofNat (List.length x1620))) <|
           br (List.getD x1620 (Int.toNat (Int.ofNat 0)) 0 != 35)
             (kr [.b (false)])
             (chk (decide ((0 : Int) ≤ (0 : Int) ∧ (0 : Int) < Int.ofNat (List.length x1620))) <|
              chk (decide ((0 : Int) ≤ Int.ofNat (nat_lit 0) ∧ Int.ofNat (nat_lit 0) < Int.ofNat (List.length x1620))) <|
              chk (condSl (↑(ByteArray.size (List.getD x1622 (Int.toNat (offAdd Option.none 0)) ByteArray.empty)) : Int) Option.none (Option.some 1)) <|
              br (!strSlO (List.getD x1622 (Int.toNat (Int.ofNat 0)) ByteArray.empty) Option.none (Option.some 1) == one2)
                (kr [.b (false)])
                (br (decide (i > 0))
                   (chk (decide ((0 : Int) ≤ (0 : Int) ∧ (0 : Int) < Int.ofNat (List.length x1620))) <|
                    chk (decide ((0 : Int) ≤ Int.ofNat (nat_lit 0) ∧ Int.ofNat (nat_lit 0) < Int.ofNat (List.length x1620))) <|
                    chk (decide ((0 : Int) ≤ (0 : Int) ∧ (0 : Int) < Int.ofNat (List.length first0))) <|
                    chk (decide ((0 : Int) ≤ Int.ofNat (nat_lit 0) ∧ Int.ofNat (nat_lit 0) < Int.ofNat (List.length first0))) <|
                    br (!eqP [Go.Value.int .i64 (List.getD x1620 (Int.toNat (offAdd Option.none (0 : Int))) (0 : Int)), Go.Value.string (List.getD x1622 (Int.toNat (offAdd Option.none (0 : Int))) ByteArray.empty)] [Go.Value.int .i64 (List.getD first0 (Int.toNat (offAdd Option.none (0 : Int))) (0 : Int)), Go.Value.string (List.getD first1 (Int.toNat (offAdd Option.none (0 : Int))) ByteArray.empty)])
                      (kr [.b (false)])
                      (one (addI .i64 i 1) fun x1627 =>
                       chk (decide (Int.ofNat (List.length x1616) = Int.ofNat (List.length x1616)) && true && true) <|
                       chk (decide (Int.ofNat (List.length x1620) = Int.ofNat (List.length x1620)) && true) <|
                       again (x1620) (x1622) (x1600) (x1602) (x1604) (x1606) (x1608) (x1610) (x1612) (x1614) (x1616) (x1618) (x1624) (x1627) (one2) (v) (f) (server) (times)))
                   (one (addI .i64 i 1) fun x1628 =>
                    chk (decide (Int.ofNat (List.length x1616) = Int.ofNat (List.length x1616)) && true && true) <|
                    chk (decide (Int.ofNat (List.length x1620) = Int.ofNat (List.length x1620)) && true) <|
                    again (x1620) (x1622) (x1600) (x1602) (x1604) (x1606) (x1608) (x1610) (x1612) (x1614) (x1616) (x1618) (x1624) (x1628) (one2) (v) (f) (server) (times)))))))
    (chk (decide (Int.ofNat (List.length n_due0) = Int.ofNat (List.length n_due0)) && true && true) <|
     chk (decide (Int.ofNat (List.length first0) = Int.ofNat (List.length first0)) && true) <|
     kx 0 [.li (n_want_k), .ls (n_want_v), .li (n_like_k), .ls (n_like_v), .li (n_mine_k), .ls (n_mine_v), .li (n_theirs_k), .ls (n_theirs_v), .li (n_due0), .ls (n_due1), .li (first0), .ls (first1), .b (n_server), .i (f), .s (one2), .s (v), .b (server)])
def NegoAgain_10_L {α : Type} (kx : Nat → List Leaf → Option α) (kr : List Leaf → Option α) : Nat → List Int → List ByteArray → List Int → List ByteArray → List Int → List ByteArray → List Int → List ByteArray → List Int → List ByteArray → List Int → List ByteArray → Bool → Int → ByteArray → ByteArray → Int → Bool → Int → Option α
  | 0, _, _, _, _, _, _, _, _, _, _, _, _, _, _, _, _, _, _, _ => none
  | n + 1, first0, first1, n_want_k, n_want_v, n_like_k, n_like_v, n_mine_k, n_mine_v, n_theirs_k, n_theirs_v, n_due0, n_due1, n_server, i, one2, v, f, server, times => NegoAgain_10_B  kx kr (NegoAgain_10_L kx kr n) first0 first1 n_want_k n_want_v n_like_k n_like_v n_mine_k n_mine_v n_theirs_k n_theirs_v n_due0 n_due1 n_server i one2 v f server times
def NegoAgain_10_F (L10 : ({β : Type} → (Nat → List Leaf → Option β) → (List Leaf → Option β) → Nat → List Int → List ByteArray → List Int → List ByteArray → List Int → List ByteArray → List Int → List ByteArray → List Int → List ByteArray → List Int → List ByteArray → Bool → Int → ByteArray → ByteArray → Int → Bool → Int → Option β)) {α : Type} (n : Nat) (ls : List Leaf) (kx : Nat → List Leaf → Option α) (kr : List Leaf → Option α) : Option α := un_li ls fun first0 rr => un_ls rr fun first1 rr => un_li rr fun n_want_k rr => un_ls rr fun n_want_v rr => un_li rr fun n_like_k rr => un_ls rr fun n_like_v rr => un_li rr fun n_mine_k rr => un_ls rr fun n_mine_v rr => un_li rr fun n_theirs_k rr => un_ls rr fun n_theirs_v rr => un_li rr fun n_due0 rr => un_ls rr fun n_due1 rr => un_b rr fun n_server rr => un_i rr fun i rr => un_s rr fun one2 rr => un_s rr fun v rr => un_i rr fun f rr => un_b rr fun server rr => un_i rr fun times rr => un_nil rr (L10 kx kr n first0 first1 n_want_k n_want_v n_like_k n_like_v n_mine_k n_mine_v n_theirs_k n_theirs_v n_due0 n_due1 n_server i one2 v f server times)
def NegoAgain_d (L10 : ({β : Type} → (Nat → List Leaf → Option β) → (List Leaf → Option β) → Nat → List Int → List ByteArray → List Int → List ByteArray → List Int → List ByteArray → List Int → List ByteArray → List Int → List ByteArray → List Int → List ByteArray → Bool → Int → ByteArray → ByteArray → Int → Bool → Int → Option β)) (server : Bool) (f : Int) (v : ByteArray) (times : Int) : Option (List Leaf) :=
  one (remI .i64 f 4) fun x1629 =>
  one (addI .i64 x1629 4) fun x1630 =>
  one (remI .i64 x1630 4) fun x1631 =>
  chk (decide (0 ≤ x1631 ∧ x1631 < (↑4 : Int))) <|
  chk (decide (0 ≤ x1631 ∧ x1631 < (↑4 : Int))) <|
  out (law1_Text v 16) fun r1632 =>
  un_s r1632 fun x1633 r1634 =>
  un_nil r1634 <|
  out (nego_New server) fun r1635 =>
  un_li r1635 fun x1636 r1637 =>
  un_ls r1637 fun x1638 r1639 =>
  un_li r1639 fun x1640 r1641 =>
  un_ls r1641 fun x1642 r1643 =>
  un_li r1643 fun x1644 r1645 =>
  un_ls r1645 fun x1646 r1647 =>
  un_li r1647 fun x1648 r1649 =>
  un_ls r1649 fun x1650 r1651 =>
  un_li r1651 fun x1652 r1653 =>
  un_ls r1653 fun x1654 r1655 =>
  un_b r1655 fun x1656 r1657 =>
  un_nil r1657 <|
  one (wrapI .u8 (List.getD [(1 : Int), (3 : Int), (6 : Int), (8 : Int)] (Int.toNat x1631) (0 : Int))) fun x1658 =>
  chk (decide (Int.ofNat (List.length x1652) = Int.ofNat (List.length x1652)) && true && true) <|
  chk (decide ((0 : Int) = Int.ofNat (0 : Nat)) && true) <|
  L10
    (fun i1659 r1660 =>
     br (Nat.beq 0 i1659)
       (un_li r1660 fun x1661 r1662 =>
        un_ls r1662 fun x1663 r1664 =>
        un_li r1664 fun x1665 r1666 =>
        un_ls r1666 fun x1667 r1668 =>
        un_li r1668 fun x1669 r1670 =>
        un_ls r1670 fun x1671 r1672 =>
        un_li r1672 fun x1673 r1674 =>
        un_ls r1674 fun x1675 r1676 =>
        un_li r1676 fun x1677 r1678 =>
        un_ls r1678 fun x1679 r1680 =>
        un_li r1680 fun x1681 r1682 =>
        un_ls r1682 fun x1683 r1684 =>
        un_b r1684 fun x1685 r1686 =>
        un_i r1686 fun x1687 r1688 =>
        un_s r1688 fun x1689 r1690 =>
        un_s r1690 fun x1691 r1692 =>
        un_b r1692 fun x1693 r1694 =>
        un_nil r1694 <|
        out (feat_May x1687 x1691) fun r1695 =>
        un_b r1695 fun x1696 r1697 =>
        un_nil r1697 <|
        br (!x1696)
          (chk (decide ((0 : Int) ≤ (0 : Int) ∧ (0 : Int) < Int.ofNat (List.length x1681))) <|
           chk (decide ((0 : Int) ≤ Int.ofNat (nat_lit 0) ∧ Int.ofNat (nat_lit 0) < Int.ofNat (List.length x1681))) <|
           br (List.getD x1683 (Int.toNat (Int.ofNat 0)) ByteArray.empty == x1689)
             (chk (decide (Int.ofNat (List.length x1677) = Int.ofNat (List.length x1677)) && true && true) <|
              out (nego_Theirs x1661 x1663 x1665 x1667 x1669 x1671 x1673 x1675 x1677 x1679 x1685 x1687) fun r1698 =>
              un_s r1698 fun x1699 r1700 =>
              un_nil r1700 <|
              out (feat_Default x1687) fun r1701 =>
              un_s r1701 fun x1702 r1703 =>
              un_nil r1703 <|
              some [.b (x1699 == x1702)])
             (some [.b (false)]))
          (out (nego_New !x1693) fun r1704 =>
           un_li r1704 fun x1705 r1706 =>
           un_ls r1706 fun x1707 r1708 =>
           un_li r1708 fun x1709 r1710 =>
           un_ls r1710 fun x1711 r1712 =>
           un_li r1712 fun x1713 r1714 =>
           un_ls r1714 fun x1715 r1716 =>
           un_li r1716 fun x1717 r1718 =>
           un_ls r1718 fun x1719 r1720 =>
           un_li r1720 fun x1721 r1722 =>
           un_ls r1722 fun x1723 r1724 =>
           un_b r1724 fun x1725 r1726 =>
           un_nil r1726 <|
           chk (decide (Int.ofNat (List.length x1721) = Int.ofNat (List.length x1721)) && true && true) <|
           out (nego_Want x1705 x1707 x1709 x1711 x1713 x1715 x1717 x1719 x1721 x1723 x1725 x1687 x1691) fun r1727 =>
           un_li r1727 fun x1728 r1729 =>
           un_ls r1729 fun x1730 r1731 =>
           un_li r1731 fun x1732 r1733 =>
           un_ls r1733 fun x1734 r1735 =>
           un_li r1735 fun x1736 r1737 =>
           un_ls r1737 fun x1738 r1739 =>
           un_li r1739 fun x1740 r1741 =>
           un_ls r1741 fun x1742 r1743 =>
           un_li r1743 fun x1744 r1745 =>
           un_ls r1745 fun x1746 r1747 =>
           un_b r1747 fun x1748 r1749 =>
           un_i r1749 fun x1750 r1751 =>
           un_nil r1751 <|
           br (x1750 != 0)
             (some [.b (false)])
             (chk (decide (Int.ofNat (List.length x1744) = Int.ofNat (List.length x1744)) && true && true) <|
              chk (decide (Int.ofNat (List.length x1681) = Int.ofNat (List.length x1681)) && true) <|
              out (nego_Take x1728 x1730 x1732 x1734 x1736 x1738 x1740 x1742 x1744 x1746 x1681 x1683 x1748) fun r1752 =>
              un_li r1752 fun x1753 r1754 =>
              un_ls r1754 fun x1755 r1756 =>
              un_li r1756 fun x1757 r1758 =>
              un_ls r1758 fun x1759 r1760 =>
              un_li r1760 fun x1761 r1762 =>
              un_ls r1762 fun x1763 r1764 =>
              un_li r1764 fun x1765 r1766 =>
              un_ls r1766 fun x1767 r1768 =>
              un_li r1768 fun x1769 r1770 =>
              un_ls r1770 fun x1771 r1772 =>
              un_b r1772 fun x1773 r1774 =>
              un_b r1774 fun x1775 r1776 =>
              un_nil r1776 <|
              br (!x1775)
                (some [.b (false)])
                (chk (decide (Int.ofNat (List.length x1769) = Int.ofNat (List.length x1769)) && true && true) <|
                 chk (decide (Int.ofNat (List.length x1681) = Int.ofNat (List.length x1681)) && true) <|
                 out (nego_Take x1753 x1755 x1757 x1759 x1761 x1763 x1765 x1767 x1769 x1771 x1681 x1683 x1773) fun r1777 =>
                 un_li r1777 fun x1778 r1779 =>
                 un_ls r1779 fun x1780 r1781 =>
                 un_li r1781 fun x1782 r1783 =>
                 un_ls r1783 fun x1784 r1785 =>
                 un_li r1785 fun x1786 r1787 =>
                 un_ls r1787 fun x1788 r1789 =>
                 un_li r1789 fun x1790 r1791 =>
                 un_ls r1791 fun x1792 r1793 =>
                 un_li r1793 fun x1794 r1795 =>
                 un_ls r1795 fun x1796 r1797 =>
                 un_b r1797 fun x1798 r1799 =>
                 un_b r1799 fun x1800 r1801 =>
                 un_nil r1801 <|
                 br (!x1800)
                   (some [.b (false)])
                   (chk (decide (Int.ofNat (List.length x1794) = Int.ofNat (List.length x1794)) && true && true) <|
                    out (nego_Done x1778 x1780 x1782 x1784 x1786 x1788 x1790 x1792 x1794 x1796 x1798) fun r1802 =>
                    un_b r1802 fun x1803 r1804 =>
                    un_nil r1804 <|
                    br (!x1803)
                      (some [.b (false)])
                      (chk (decide (Int.ofNat (List.length x1794) = Int.ofNat (List.length x1794)) && true && true) <|
                       out (nego_Mine x1778 x1780 x1782 x1784 x1786 x1788 x1790 x1792 x1794 x1796 x1798 x1687) fun r1805 =>
                       un_s r1805 fun x1806 r1807 =>
                       un_nil r1807 <|
                       chk (decide (Int.ofNat (List.length x1677) = Int.ofNat (List.length x1677)) && true && true) <|
                       out (nego_Theirs x1661 x1663 x1665 x1667 x1669 x1671 x1673 x1675 x1677 x1679 x1685 x1687) fun r1808 =>
                       un_s r1808 fun x1809 r1810 =>
                       un_nil r1810 <|
                       br (x1806 == x1809)
                         (br (x1687 == 3)
                            (chk (decide (Int.ofNat (List.length x1794) = Int.ofNat (List.length x1794)) && true && true) <|
                             out (nego_Mine x1778 x1780 x1782 x1784 x1786 x1788 x1790 x1792 x1794 x1796 x1798 x1687) fun r1811 =>
                             un_s r1811 fun x1812 r1813 =>
                             un_nil r1813 <|
                             br (x1812 == x1691)
                               (some [.b (true)])
                               (br (x1687 != 3)
                                  (chk (decide (Int.ofNat (List.length x1794) = Int.ofNat (List.length x1794)) && true && true) <|
                                   out (nego_Mine x1778 x1780 x1782 x1784 x1786 x1788 x1790 x1792 x1794 x1796 x1798 x1687) fun r1814 =>
                                   un_s r1814 fun x1815 r1816 =>
                                   un_nil r1816 <|
                                   one ((↑(ByteArray.size x1815) : Int)) fun x1817 =>
                                   some [.b (x1817 == 1)])
                                  (some [.b (false)])))
                            (br (x1687 != 3)
                               (chk (decide (Int.ofNat (List.length x1794) = Int.ofNat (List.length x1794)) && true && true) <|
                                out (nego_Mine x1778 x1780 x1782 x1784 x1786 x1788 x1790 x1792 x1794 x1796 x1798 x1687) fun r1818 =>
                                un_s r1818 fun x1819 r1820 =>
                                un_nil r1820 <|
                                one ((↑(ByteArray.size x1819) : Int)) fun x1821 =>
                                some [.b (x1821 == 1)])
                               (some [.b (false)])))
                         (some [.b (false)])))))))
       (none))
    (fun r1822 =>
     un_b r1822 fun x1823 r1824 =>
     un_nil r1824 <|
     some [.b (x1823)])
    top ([]) ([]) (x1636) (x1638) (x1640) (x1642) (x1644) (x1646) (x1648) (x1650) (x1652) (x1654) (x1656) (0) (strOfI (partL Option.none (↑(1 : Nat) : Int) [x1658])) (x1633) (List.getD [(1 : Int), (3 : Int), (6 : Int), (8 : Int)] (Int.toNat x1631) (0 : Int)) (server) (times)
def NegoAgain (server : Bool) (f : Int) (v : ByteArray) (times : Int) : Option (List Leaf) := NegoAgain_d @NegoAgain_10_L server f v times
end Go.Sx.T

