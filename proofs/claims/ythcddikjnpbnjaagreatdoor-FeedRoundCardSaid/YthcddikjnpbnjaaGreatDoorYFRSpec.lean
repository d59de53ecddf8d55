import Derived.Test.YthcddikjnpbnjaaGreatDoorYFPSpec
set_option linter.all false
namespace Go.Sx.T
open Go Go.Sx
def FeedRate_8_B  {α : Type} (kx : Nat → List Leaf → Option α) (kr : List Leaf → Option α) (again : List Int → List Int → List Int → List Int → List Int → List Bool → List Int → Int → Bool → Int → Int → Int → Int → Bool → Int → Int → Int → Int → Int → Int → Int → Int → Option α) (sizes : List Int) (gaps : List Int) (f_got_k : List Int) (f_got_v : List Int) (f_lost_k : List Int) (f_lost_v : List Bool) (f_closed : List Int) (f_r : Int) (f_any : Bool) (f_now : Int) (f_first : Int) (f_newest : Int) (f_count : Int) (f_event : Bool) (f_eventAt : Int) (f_eventN : Int) (f_bytes : Int) (f_since : Int) (i : Int) (bytes : Int) (from2 : Int) (now : Int) : Option α :=
  one (Int.ofNat (List.length sizes)) fun x1651 =>
  br (decide (i < x1651))
    (one (Int.ofNat (List.length gaps)) fun x1652 =>
     br (decide (i < x1652))
       (br (decide (i < 40))
          (chk (decide ((0 : Int) ≤ i ∧ i < Int.ofNat (List.length gaps))) <|
           chk (decide ((0 : Int) ≤ i ∧ i < Int.ofNat (List.length gaps))) <|
           one (remI .i64 (List.getD gaps (Int.toNat i) 0) 10000) fun x1653 =>
           one (addI .i64 x1653 10000) fun x1654 =>
           one (remI .i64 x1654 10000) fun x1655 =>
           one (addI .i64 1 x1655) fun x1656 =>
           one (addI .i64 now x1656) fun x1657 =>
           chk (decide ((0 : Int) ≤ i ∧ i < Int.ofNat (List.length sizes))) <|
           chk (decide ((0 : Int) ≤ i ∧ i < Int.ofNat (List.length sizes))) <|
           one (remI .i64 (List.getD sizes (Int.toNat i) 0) 1400) fun x1658 =>
           one (addI .i64 x1658 1400) fun x1659 =>
           one (remI .i64 x1659 1400) fun x1660 =>
           one (wrapI .u64 i) fun x1661 =>
           chk (decide (Int.ofNat (List.length f_closed) = Int.ofNat (List.length f_closed)) && true && true) <|
           out (feed_Put f_got_k f_got_v f_lost_k f_lost_v f_closed f_r f_any f_now f_first f_newest f_count f_event f_eventAt f_eventN f_bytes f_since x1657 x1661 x1660) fun r1662 =>
           un_li r1662 fun x1663 r1664 =>
           un_li r1664 fun x1665 r1666 =>
           un_li r1666 fun x1667 r1668 =>
           un_lb r1668 fun x1669 r1670 =>
           un_li r1670 fun x1671 r1672 =>
           un_i r1672 fun x1673 r1674 =>
           un_b r1674 fun x1675 r1676 =>
           un_i r1676 fun x1677 r1678 =>
           un_i r1678 fun x1679 r1680 =>
           un_i r1680 fun x1681 r1682 =>
           un_i r1682 fun x1683 r1684 =>
           un_b r1684 fun x1685 r1686 =>
           un_i r1686 fun x1687 r1688 =>
           un_i r1688 fun x1689 r1690 =>
           un_i r1690 fun x1691 r1692 =>
           un_i r1692 fun x1693 r1694 =>
           un_b r1694 fun x1695 r1696 =>
           un_nil r1696 <|
           br (i == 0)
             (one (wrapI .u64 x1660) fun x1697 =>
              one (addI .u64 bytes x1697) fun x1698 =>
              one (remI .i64 i 5) fun x1699 =>
              br (x1699 == 4)
                (one (addI .i64 x1657 7) fun x1700 =>
                 one (minI x1700 4611686018427387904) fun x1701 =>
                 one (maxI x1677 x1701) fun x1702 =>
                 br (x1675)
                   (one (mulI .u64 64 x1691) fun x1703 =>
                    one (subI .i64 x1702 x1693) fun x1704 =>
                    one (maxI x1704 1) fun x1705 =>
                    one (wrapI .u64 x1705) fun x1706 =>
                    out (fix_MulDiv x1703 1000000 x1706) fun r1707 =>
                    un_i r1707 fun x1708 r1709 =>
                    un_nil r1709 <|
                    br (!x1685)
                      (one (0) fun x1731 =>
                       one (0) fun x1730 =>
                       one (minI 0 8) fun x1710 =>
                       chk (condSl 0 Option.none (Option.some x1710)) <|
                       out (ival_Weight 0) fun r1711 =>
                       un_i r1711 fun x1712 r1713 =>
                       un_nil r1713 <|
                       out (fix_Mul 0 x1712) fun r1714 =>
                       un_i r1714 fun x1715 r1716 =>
                       un_nil r1716 <|
                       one (0) fun x1729 =>
                       one (maxI x1715 0) fun x1717 =>
                       one (0) fun x1728 =>
                       one (x1717) fun x1718 =>
                       one (x1708) fun x1719 =>
                       one (0) fun x1727 =>
                       one (mulI .u64 64 x1698) fun x1720 =>
                       one (subI .i64 x1700 x1657) fun x1721 =>
                       one (wrapI .u64 x1721) fun x1722 =>
                       out (ref_MulDiv x1720 1000000 x1722) fun r1723 =>
                       un_i r1723 fun x1724 r1725 =>
                       un_nil r1725 <|
                       br (x1719 != x1724)
                         (kr [.li (sizes), .li (gaps), .b (false)])
                         (one (addI .i64 i 1) fun x1726 =>
                          chk (decide (Int.ofNat (List.length x1671) = Int.ofNat (List.length x1671)) && true && true) <|
                          chk (decide (Int.ofNat (List.length sizes) = Int.ofNat (List.length sizes)) && (decide (Int.ofNat (List.length gaps) = Int.ofNat (List.length gaps)) && true)) <|
                          again (sizes) (gaps) (x1663) (x1665) (x1667) (x1669) (x1671) (x1673) (x1675) (x1702) (x1679) (x1681) (x1683) (x1685) (x1687) (x1689) (0) (x1702) (x1726) (0) (x1700) (x1700)))
                      (out (seq_Diff x1681 x1689) fun r1732 =>
                       un_i r1732 fun x1733 r1734 =>
                       un_nil r1734 <|
                       one (maxI x1733 0) fun x1735 =>
                       one (wrapI .u64 x1735) fun x1736 =>
                       chk (decide (Int.ofNat (List.length x1671) = Int.ofNat (List.length x1671)) && decide (Int.ofNat (List.length x1671) * (↑(nat_lit 8) : Int) ≤ (140737488355328 : Int) ∧ Int.ofNat (List.length x1671) ≤ (4611686018427387904 : Int))) <|
                       chk (decide (Int.ofNat (List.length x1671) = Int.ofNat (List.length x1671)) && decide (Int.ofNat (List.length x1671) * (↑(nat_lit 8) : Int) ≤ (140737488355328 : Int) ∧ Int.ofNat (List.length x1671) ≤ (4611686018427387904 : Int))) <|
                       one (x1736) fun x1737 =>
                       chk (decide (Int.ofNat (List.length x1671) = Int.ofNat (List.length x1671)) && true) <|
                       out (ival_Rate x1671 x1737) fun r1738 =>
                       un_i r1738 fun x1739 r1740 =>
                       un_nil r1740 <|
                       one (x1708) fun x1741 =>
                       one (x1739) fun x1742 =>
                       one (mulI .u64 64 x1698) fun x1743 =>
                       one (subI .i64 x1700 x1657) fun x1744 =>
                       one (wrapI .u64 x1744) fun x1745 =>
                       out (ref_MulDiv x1743 1000000 x1745) fun r1746 =>
                       un_i r1746 fun x1747 r1748 =>
                       un_nil r1748 <|
                       br (x1741 != x1747)
                         (kr [.li (sizes), .li (gaps), .b (false)])
                         (one (addI .i64 i 1) fun x1749 =>
                          chk (decide (Int.ofNat (List.length x1671) = Int.ofNat (List.length x1671)) && true && true) <|
                          chk (decide (Int.ofNat (List.length sizes) = Int.ofNat (List.length sizes)) && (decide (Int.ofNat (List.length gaps) = Int.ofNat (List.length gaps)) && true)) <|
                          again (sizes) (gaps) (x1663) (x1665) (x1667) (x1669) (x1671) (x1673) (x1675) (x1702) (x1679) (x1681) (x1683) (x1685) (x1687) (x1689) (0) (x1702) (x1749) (0) (x1700) (x1700))))
                   (br (!x1685)
                      (one (0) fun x1771 =>
                       one (0) fun x1770 =>
                       one (minI 0 8) fun x1750 =>
                       chk (condSl 0 Option.none (Option.some x1750)) <|
                       out (ival_Weight 0) fun r1751 =>
                       un_i r1751 fun x1752 r1753 =>
                       un_nil r1753 <|
                       out (fix_Mul 0 x1752) fun r1754 =>
                       un_i r1754 fun x1755 r1756 =>
                       un_nil r1756 <|
                       one (0) fun x1769 =>
                       one (maxI x1755 0) fun x1757 =>
                       one (0) fun x1768 =>
                       one (x1757) fun x1758 =>
                       one (0) fun x1767 =>
                       one (0) fun x1766 =>
                       one (mulI .u64 64 x1698) fun x1759 =>
                       one (subI .i64 x1700 x1657) fun x1760 =>
                       one (wrapI .u64 x1760) fun x1761 =>
                       out (ref_MulDiv x1759 1000000 x1761) fun r1762 =>
                       un_i r1762 fun x1763 r1764 =>
                       un_nil r1764 <|
                       br (0 != x1763)
                         (kr [.li (sizes), .li (gaps), .b (false)])
                         (one (addI .i64 i 1) fun x1765 =>
                          chk (decide (Int.ofNat (List.length x1671) = Int.ofNat (List.length x1671)) && true && true) <|
                          chk (decide (Int.ofNat (List.length sizes) = Int.ofNat (List.length sizes)) && (decide (Int.ofNat (List.length gaps) = Int.ofNat (List.length gaps)) && true)) <|
                          again (sizes) (gaps) (x1663) (x1665) (x1667) (x1669) (x1671) (x1673) (x1675) (x1702) (x1679) (x1681) (x1683) (x1685) (x1687) (x1689) (x1691) (x1693) (x1765) (0) (x1700) (x1700)))
                      (out (seq_Diff x1681 x1689) fun r1772 =>
                       un_i r1772 fun x1773 r1774 =>
                       un_nil r1774 <|
                       one (maxI x1773 0) fun x1775 =>
                       one (wrapI .u64 x1775) fun x1776 =>
                       chk (decide (Int.ofNat (List.length x1671) = Int.ofNat (List.length x1671)) && decide (Int.ofNat (List.length x1671) * (↑(nat_lit 8) : Int) ≤ (140737488355328 : Int) ∧ Int.ofNat (List.length x1671) ≤ (4611686018427387904 : Int))) <|
                       chk (decide (Int.ofNat (List.length x1671) = Int.ofNat (List.length x1671)) && decide (Int.ofNat (List.length x1671) * (↑(nat_lit 8) : Int) ≤ (140737488355328 : Int) ∧ Int.ofNat (List.length x1671) ≤ (4611686018427387904 : Int))) <|
                       one (x1776) fun x1777 =>
                       chk (decide (Int.ofNat (List.length x1671) = Int.ofNat (List.length x1671)) && true) <|
                       out (ival_Rate x1671 x1777) fun r1778 =>
                       un_i r1778 fun x1779 r1780 =>
                       un_nil r1780 <|
                       one (0) fun x1789 =>
                       one (x1779) fun x1781 =>
                       one (mulI .u64 64 x1698) fun x1782 =>
                       one (subI .i64 x1700 x1657) fun x1783 =>
                       one (wrapI .u64 x1783) fun x1784 =>
                       out (ref_MulDiv x1782 1000000 x1784) fun r1785 =>
                       un_i r1785 fun x1786 r1787 =>
                       un_nil r1787 <|
                       br (0 != x1786)
                         (kr [.li (sizes), .li (gaps), .b (false)])
                         (one (addI .i64 i 1) fun x1788 =>
                          chk (decide (Int.ofNat (List.length x1671) = Int.ofNat (List.length x1671)) && true && true) <|
                          chk (decide (Int.ofNat (List.length sizes) = Int.ofNat (List.length sizes)) && (decide (Int.ofNat (List.length gaps) = Int.ofNat (List.length gaps)) && true)) <|
                          again (sizes) (gaps) (x1663) (x1665) (x1667) (x1669) (x1671) (x1673) (x1675) (x1702) (x1679) (x1681) (x1683) (x1685) (x1687) (x1689) (x1691) (x1693) (x1788) (0) (x1700) (x1700)))))
                (one (addI .i64 i 1) fun x1790 =>
                 chk (decide (Int.ofNat (List.length x1671) = Int.ofNat (List.length x1671)) && true && true) <|
                 chk (decide (Int.ofNat (List.length sizes) = Int.ofNat (List.length sizes)) && (decide (Int.ofNat (List.length gaps) = Int.ofNat (List.length gaps)) && true)) <|
                 again (sizes) (gaps) (x1663) (x1665) (x1667) (x1669) (x1671) (x1673) (x1675) (x1677) (x1679) (x1681) (x1683) (x1685) (x1687) (x1689) (x1691) (x1693) (x1790) (x1698) (x1657) (x1657)))
             (one (wrapI .u64 x1660) fun x1791 =>
              one (addI .u64 bytes x1791) fun x1792 =>
              one (remI .i64 i 5) fun x1793 =>
              br (x1793 == 4)
                (one (addI .i64 x1657 7) fun x1794 =>
                 one (minI x1794 4611686018427387904) fun x1795 =>
                 one (maxI x1677 x1795) fun x1796 =>
                 br (x1675)
                   (one (mulI .u64 64 x1691) fun x1797 =>
                    one (subI .i64 x1796 x1693) fun x1798 =>
                    one (maxI x1798 1) fun x1799 =>
                    one (wrapI .u64 x1799) fun x1800 =>
                    out (fix_MulDiv x1797 1000000 x1800) fun r1801 =>
                    un_i r1801 fun x1802 r1803 =>
                    un_nil r1803 <|
                    br (!x1685)
                      (one (0) fun x1825 =>
                       one (0) fun x1824 =>
                       one (minI 0 8) fun x1804 =>
                       chk (condSl 0 Option.none (Option.some x1804)) <|
                       out (ival_Weight 0) fun r1805 =>
                       un_i r1805 fun x1806 r1807 =>
                       un_nil r1807 <|
                       out (fix_Mul 0 x1806) fun r1808 =>
                       un_i r1808 fun x1809 r1810 =>
                       un_nil r1810 <|
                       one (0) fun x1823 =>
                       one (maxI x1809 0) fun x1811 =>
                       one (0) fun x1822 =>
                       one (x1811) fun x1812 =>
                       one (x1802) fun x1813 =>
                       one (0) fun x1821 =>
                       one (mulI .u64 64 x1792) fun x1814 =>
                       one (subI .i64 x1794 from2) fun x1815 =>
                       one (wrapI .u64 x1815) fun x1816 =>
                       out (ref_MulDiv x1814 1000000 x1816) fun r1817 =>
                       un_i r1817 fun x1818 r1819 =>
                       un_nil r1819 <|
                       br (x1813 != x1818)
                         (kr [.li (sizes), .li (gaps), .b (false)])
                         (one (addI .i64 i 1) fun x1820 =>
                          chk (decide (Int.ofNat (List.length x1671) = Int.ofNat (List.length x1671)) && true && true) <|
                          chk (decide (Int.ofNat (List.length sizes) = Int.ofNat (List.length sizes)) && (decide (Int.ofNat (List.length gaps) = Int.ofNat (List.length gaps)) && true)) <|
                          again (sizes) (gaps) (x1663) (x1665) (x1667) (x1669) (x1671) (x1673) (x1675) (x1796) (x1679) (x1681) (x1683) (x1685) (x1687) (x1689) (0) (x1796) (x1820) (0) (x1794) (x1794)))
                      (out (seq_Diff x1681 x1689) fun r1826 =>
                       un_i r1826 fun x1827 r1828 =>
                       un_nil r1828 <|
                       one (maxI x1827 0) fun x1829 =>
                       one (wrapI .u64 x1829) fun x1830 =>
                       chk (decide (Int.ofNat (List.length x1671) = Int.ofNat (List.length x1671)) && decide (Int.ofNat (List.length x1671) * (↑(nat_lit 8) : Int) ≤ (140737488355328 : Int) ∧ Int.ofNat (List.length x1671) ≤ (4611686018427387904 : Int))) <|
                       chk (decide (Int.ofNat (List.length x1671) = Int.ofNat (List.length x1671)) && decide (Int.ofNat (List.length x1671) * (↑(nat_lit 8) : Int) ≤ (140737488355328 : Int) ∧ Int.ofNat (List.length x1671) ≤ (4611686018427387904 : Int))) <|
                       one (x1830) fun x1831 =>
                       chk (decide (Int.ofNat (List.length x1671) = Int.ofNat (List.length x1671)) && true) <|
                       out (ival_Rate x1671 x1831) fun r1832 =>
                       un_i r1832 fun x1833 r1834 =>
                       un_nil r1834 <|
                       one (x1802) fun x1835 =>
                       one (x1833) fun x1836 =>
                       one (mulI .u64 64 x1792) fun x1837 =>
                       one (subI .i64 x1794 from2) fun x1838 =>
                       one (wrapI .u64 x1838) fun x1839 =>
                       out (ref_MulDiv x1837 1000000 x1839) fun r1840 =>
                       un_i r1840 fun x1841 r1842 =>
                       un_nil r1842 <|
                       br (x1835 != x1841)
                         (kr [.li (sizes), .li (gaps), .b (false)])
                         (one (addI .i64 i 1) fun x1843 =>
                          chk (decide (Int.ofNat (List.length x1671) = Int.ofNat (List.length x1671)) && true && true) <|
                          chk (decide (Int.ofNat (List.length sizes) = Int.ofNat (List.length sizes)) && (decide (Int.ofNat (List.length gaps) = Int.ofNat (List.length gaps)) && true)) <|
                          again (sizes) (gaps) (x1663) (x1665) (x1667) (x1669) (x1671) (x1673) (x1675) (x1796) (x1679) (x1681) (x1683) (x1685) (x1687) (x1689) (0) (x1796) (x1843) (0) (x1794) (x1794))))
                   (br (!x1685)
                      (one (0) fun x1865 =>
                       one (0) fun x1864 =>
                       one (minI 0 8) fun x1844 =>
                       chk (condSl 0 Option.none (Option.some x1844)) <|
                       out (ival_Weight 0) fun r1845 =>
                       un_i r1845 fun x1846 r1847 =>
                       un_nil r1847 <|
                       out (fix_Mul 0 x1846) fun r1848 =>
                       un_i r1848 fun x1849 r1850 =>
                       un_nil r1850 <|
                       one (0) fun x1863 =>
                       one (maxI x1849 0) fun x1851 =>
                       one (0) fun x1862 =>
                       one (x1851) fun x1852 =>
                       one (0) fun x1861 =>
                       one (0) fun x1860 =>
                       one (mulI .u64 64 x1792) fun x1853 =>
                       one (subI .i64 x1794 from2) fun x1854 =>
                       one (wrapI .u64 x1854) fun x1855 =>
                       out (ref_MulDiv x1853 1000000 x1855) fun r1856 =>
                       un_i r1856 fun x1857 r1858 =>
                       un_nil r1858 <|
                       br (0 != x1857)
                         (kr [.li (sizes), .li (gaps), .b (false)])
                         (one (addI .i64 i 1) fun x1859 =>
                          chk (decide (Int.ofNat (List.length x1671) = Int.ofNat (List.length x1671)) && true && true) <|
                          chk (decide (Int.ofNat (List.length sizes) = Int.ofNat (List.length sizes)) && (decide (Int.ofNat (List.length gaps) = Int.ofNat (List.length gaps)) && true)) <|
                          again (sizes) (gaps) (x1663) (x1665) (x1667) (x1669) (x1671) (x1673) (x1675) (x1796) (x1679) (x1681) (x1683) (x1685) (x1687) (x1689) (x1691) (x1693) (x1859) (0) (x1794) (x1794)))
                      (out (seq_Diff x1681 x1689) fun r1866 =>
                       un_i r1866 fun x1867 r1868 =>
                       un_nil r1868 <|
                       one (maxI x1867 0) fun x1869 =>
                       one (wrapI .u64 x1869) fun x1870 =>
                       chk (decide (Int.ofNat (List.length x1671) = Int.ofNat (List.length x1671)) && decide (Int.ofNat (List.length x1671) * (↑(nat_lit 8) : Int) ≤ (140737488355328 : Int) ∧ Int.ofNat (List.length x1671) ≤ (4611686018427387904 : Int))) <|
                       chk (decide (Int.ofNat (List.length x1671) = Int.ofNat (List.length x1671)) && decide (Int.ofNat (List.length x1671) * (↑(nat_lit 8) : Int) ≤ (140737488355328 : Int) ∧ Int.ofNat (List.length x1671) ≤ (4611686018427387904 : Int))) <|
                       one (x1870) fun x1871 =>
                       chk (decide (Int.ofNat (List.length x1671) = Int.ofNat (List.length x1671)) && true) <|
                       out (ival_Rate x1671 x1871) fun r1872 =>
                       un_i r1872 fun x1873 r1874 =>
                       un_nil r1874 <|
                       one (0) fun x1883 =>
                       one (x1873) fun x1875 =>
                       one (mulI .u64 64 x1792) fun x1876 =>
                       one (subI .i64 x1794 from2) fun x1877 =>
                       one (wrapI .u64 x1877) fun x1878 =>
                       out (ref_MulDiv x1876 1000000 x1878) fun r1879 =>
                       un_i r1879 fun x1880 r1881 =>
                       un_nil r1881 <|
                       br (0 != x1880)
                         (kr [.li (sizes), .li (gaps), .b (false)])
                         (one (addI .i64 i 1) fun x1882 =>
                          chk (decide (Int.ofNat (List.length x1671) = Int.ofNat (List.length x1671)) && true && true) <|
                          chk (decide (Int.ofNat (List.length sizes) = Int.ofNat (List.length sizes)) && (decide (Int.ofNat (List.length gaps) = Int.ofNat (List.length gaps)) && true)) <|
                          again (sizes) (gaps) (x1663) (x1665) (x1667) (x1669) (x1671) (x1673) (x1675) (x1796) (x1679) (x1681) (x1683) (x1685) (x1687) (x1689) (x1691) (x1693) (x1882) (0) (x1794) (x1794)))))
                (one (addI .i64 i 1) fun x1884 =>
                 chk (decide (Int.ofNat (List.length x1671) = Int.ofNat (List.length x1671)) && true && true) <|
                 chk (decide (Int.ofNat (List.length sizes) = Int.ofNat (List.length sizes)) && (decide (Int.ofNat (List.length gaps) = Int.ofNat (List.length gaps)) && true)) <|
                 again (sizes) (gaps) (x1663) (x1665) (x1667) (x1669) (x1671) (x1673) (x1675) (x1677) (x1679) (x1681) (x1683) (x1685) (x1687) (x1689) (x1691) (x1693) (x1884) (x1792) (from2) (x1657))))
          (chk (decide (Int.ofNat (List.length f_closed) = Int.ofNat (List.length f_closed)) && true && true) <|
           kx 0 [.li (sizes), .li (gaps), .li (f_got_k), .li (f_got_v), .li (f_lost_k), .lb (f_lost_v), .li (f_closed), .i (f_r), .b (f_any), .i (f_now), .i (f_first), .i (f_newest), .i (f_count), .b (f_event), .i (f_eventAt), .i (f_eventN), .i (f_bytes), .i (f_since)]))
       (chk (decide (Int.ofNat (List.length f_closed) = Int.ofNat (List.length f_closed)) && true && true) <|
        kx 0 [.li (sizes), .li (gaps), .li (f_got_k), .li (f_got_v), .li (f_lost_k), .lb (f_lost_v), .li (f_closed), .i (f_r), .b (f_any), .i (f_now), .i (f_first), .i (f_newest), .i (f_count), .b (f_event), .i (f_eventAt), .i (f_eventN), .i (f_bytes), .i (f_since)]))
    (chk (decide (Int.ofNat (List.length f_closed) = Int.ofNat (List.length f_closed)) && true && true) <|
     kx 0 [.li (sizes), .li (gaps), .li (f_got_k), .li (f_got_v), .li (f_lost_k), .lb (f_lost_v), .li (f_closed), .i (f_r), .b (f_any), .i (f_now), .i (f_first), .i (f_newest), .i (f_count), .b (f_event), .i (f_eventAt), .i (f_eventN), .i (f_bytes), .i (f_since)])
def FeedRate_8_L {α : Type} (kx : Nat → List Leaf → Option α) (kr : List Leaf → Option α) : Nat → List Int → List Int → List Int → List Int → List Int → List Bool → List Int → Int → Bool → Int → Int → Int → Int → Bool → Int → Int → Int → Int → Int → Int → Int → Int → Option α
  | 0, _, _, _, _, _, _, _, _, _, _, _, _, _, _, _, _, _, _, _, _, _, _ => none
  | n + 1, sizes, gaps, f_got_k, f_got_v, f_lost_k, f_lost_v, f_closed, f_r, f_any, f_now, f_first, f_newest, f_count, f_event, f_eventAt, f_eventN, f_bytes, f_since, i, bytes, from2, now => FeedRate_8_B  kx kr (FeedRate_8_L kx kr n) sizes gaps f_got_k f_got_v f_lost_k f_lost_v f_closed f_r f_any f_now f_first f_newest f_count f_event f_eventAt f_eventN f_bytes f_since i bytes from2 now
def FeedRate_8_F (L8 : ({β : Type} → (Nat → List Leaf → Option β) → (List Leaf → Option β) → Nat → List Int → List Int → List Int → List Int → List Int → List Bool → List Int → Int → Bool → Int → Int → Int → Int → Bool → Int → Int → Int → Int → Int → Int → Int → Int → Option β)) {α : Type} (n : Nat) (ls : List Leaf) (kx : Nat → List Leaf → Option α) (kr : List Leaf → Option α) : Option α := un_li ls fun sizes rr => un_li rr fun gaps rr => un_li rr fun f_got_k rr => un_li rr fun f_got_v rr => un_li rr fun f_lost_k rr => un_lb rr fun f_lost_v rr => un_li rr fun f_closed rr => un_i rr fun f_r rr => un_b rr fun f_any rr => un_i rr fun f_now rr => un_i rr fun f_first rr => un_i rr fun f_newest rr => un_i rr fun f_count rr => un_b rr fun f_event rr => un_i rr fun f_eventAt rr => un_i rr fun f_eventN rr => un_i rr fun f_bytes rr => un_i rr fun f_since rr => un_i rr fun i rr => un_i rr fun bytes rr => un_i rr fun from2 rr => un_i rr fun now rr => un_nil rr (L8 kx kr n sizes gaps f_got_k f_got_v f_lost_k f_lost_v f_closed f_r f_any f_now f_first f_newest f_count f_event f_eventAt f_eventN f_bytes f_since i bytes from2 now)
def FeedRate_d (L8 : ({β : Type} → (Nat → List Leaf → Option β) → (List Leaf → Option β) → Nat → List Int → List Int → List Int → List Int → List Int → List Bool → List Int → Int → Bool → Int → Int → Int → Int → Bool → Int → Int → Int → Int → Int → Int → Int → Int → Option β)) (sizes : List Int) (gaps : List Int) : Option (List Leaf) :=
  out (feed_New 1000) fun r1885 =>
  un_li r1885 fun x1886 r1887 =>
  un_li r1887 fun x1888 r1889 =>
  un_li r1889 fun x1890 r1891 =>
  un_lb r1891 fun x1892 r1893 =>
  un_li r1893 fun x1894 r1895 =>
  un_i r1895 fun x1896 r1897 =>
  un_b r1897 fun x1898 r1899 =>
  un_i r1899 fun x1900 r1901 =>
  un_i r1901 fun x1902 r1903 =>
  un_i r1903 fun x1904 r1905 =>
  un_i r1905 fun x1906 r1907 =>
  un_b r1907 fun x1908 r1909 =>
  un_i r1909 fun x1910 r1911 =>
  un_i r1911 fun x1912 r1913 =>
  un_i r1913 fun x1914 r1915 =>
  un_i r1915 fun x1916 r1917 =>
  un_nil r1917 <|
  chk (decide (Int.ofNat (List.length x1894) = Int.ofNat (List.length x1894)) && true && true) <|
  chk (decide (Int.ofNat (List.length sizes) = Int.ofNat (List.length sizes)) && (decide (Int.ofNat (List.length gaps) = Int.ofNat (List.length gaps)) && true)) <|
  L8
    (fun i1918 r1919 =>
     br (Nat.beq 0 i1918)
       (un_li r1919 fun x1920 r1921 =>
        un_li r1921 fun x1922 r1923 =>
        un_li r1923 fun x1924 r1925 =>
        un_li r1925 fun x1926 r1927 =>
        un_li r1927 fun x1928 r1929 =>
        un_lb r1929 fun x1930 r1931 =>
        un_li r1931 fun x1932 r1933 =>
        un_i r1933 fun x1934 r1935 =>
        un_b r1935 fun x1936 r1937 =>
        un_i r1937 fun x1938 r1939 =>
        un_i r1939 fun x1940 r1941 =>
        un_i r1941 fun x1942 r1943 =>
        un_i r1943 fun x1944 r1945 =>
        un_b r1945 fun x1946 r1947 =>
        un_i r1947 fun x1948 r1949 =>
        un_i r1949 fun x1950 r1951 =>
        un_i r1951 fun x1952 r1953 =>
        un_i r1953 fun x1954 r1955 =>
        un_nil r1955 <|
        chk (decide (Int.ofNat (List.length x1932) = Int.ofNat (List.length x1932)) && true && true) <|
        out (feed_Lost x1924 x1926 x1928 x1930 x1932 x1934 x1936 x1938 x1940 x1942 x1944 x1946 x1948 x1950 x1952 x1954) fun r1956 =>
        un_i r1956 fun x1957 r1958 =>
        un_nil r1958 <|
        some [.b (x1957 == 0)])
       (none))
    (fun r1959 =>
     un_li r1959 fun x1960 r1961 =>
     un_li r1961 fun x1962 r1963 =>
     un_b r1963 fun x1964 r1965 =>
     un_nil r1965 <|
     some [.b (x1964)])
    top (sizes) (gaps) (x1886) (x1888) (x1890) (x1892) (x1894) (x1896) (x1898) (x1900) (x1902) (x1904) (x1906) (x1908) (x1910) (x1912) (x1914) (x1916) (0) (0) (0) (0)
def FeedRate (sizes : List Int) (gaps : List Int) : Option (List Leaf) := FeedRate_d @FeedRate_8_L sizes gaps
end Go.Sx.T

