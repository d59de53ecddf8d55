import Derived.Test.YtabdgalicaifhaaGreatDoorYVecSpec
import Derived.Test.YtabdgalicaifhaaGreatDoorYDrop
set_option linter.all false
namespace Go.Sx.T
open Go Go.Sx
def got_New  : Option (List Leaf) :=
  some [.li ([]), .li ([]), .i (0), .b (false), .i (0), .b (false)]
def got_Has (g_l_k : List Int) (g_l_v : List Int) (g_newest : Int) (g_any : Bool) (g_forgotten : Int) (g_forgot : Bool) (s : Int) : Option (List Leaf) :=
  out (seq_Of s) fun r1709 =>
  un_i r1709 fun x1710 r1711 =>
  un_nil r1711 <|
  one (mget 0 g_l_k g_l_v x1710) fun x1712 =>
  some [.b (mhas g_l_k x1710)]
def got_Put (g_l_k : List Int) (g_l_v : List Int) (g_newest : Int) (g_any : Bool) (g_forgotten : Int) (g_forgot : Bool) (s : Int) (mark : Bool) : Option (List Leaf) :=
  out (seq_Of s) fun r1713 =>
  un_i r1713 fun x1714 r1715 =>
  un_nil r1715 <|
  out (got_Has g_l_k g_l_v g_newest g_any g_forgotten g_forgot x1714) fun r1716 =>
  un_b r1716 fun x1717 r1718 =>
  un_nil r1718 <|
  br (x1717)
    (some [.li (g_l_k), .li (g_l_v), .i (g_newest), .b (g_any), .i (g_forgotten), .b (g_forgot), .b (false)])
    (br (g_any)
       (out (seq_Diff g_newest x1714) fun r1719 =>
        un_i r1719 fun x1720 r1721 =>
        un_nil r1721 <|
        br (decide (x1720 ≥ 250))
          (some [.li (g_l_k), .li (g_l_v), .i (g_newest), .b (g_any), .i (g_forgotten), .b (g_forgot), .b (false)])
          (br (g_forgot)
             (out (seq_Less g_forgotten x1714) fun r1722 =>
              un_b r1722 fun x1723 r1724 =>
              un_nil r1724 <|
              br (!x1723)
                (some [.li (g_l_k), .li (g_l_v), .i (g_newest), .b (g_any), .i (g_forgotten), .b (g_forgot), .b (false)])
                (br (mark)
                   (br (!g_any)
                      (out (got_drop (mputK (mputK g_l_k x1714) x1714) (mputV (mputK g_l_k x1714) (mputV g_l_k g_l_v x1714 0) x1714 1) x1714 true g_forgotten g_forgot x1714) fun r1725 =>
                       un_li r1725 fun x1726 r1727 =>
                       un_li r1727 fun x1728 r1729 =>
                       un_i r1729 fun x1730 r1731 =>
                       un_b r1731 fun x1732 r1733 =>
                       un_i r1733 fun x1734 r1735 =>
                       un_b r1735 fun x1736 r1737 =>
                       un_i r1737 fun x1738 r1739 =>
                       un_nil r1739 <|
                       some [.li (x1726), .li (x1728), .i (x1730), .b (x1732), .i (x1734), .b (x1736), .b (true)])
                      (out (seq_Less g_newest x1714) fun r1740 =>
                       un_b r1740 fun x1741 r1742 =>
                       un_nil r1742 <|
                       br (x1741)
                         (out (got_drop (mputK (mputK g_l_k x1714) x1714) (mputV (mputK g_l_k x1714) (mputV g_l_k g_l_v x1714 0) x1714 1) x1714 true g_forgotten g_forgot x1714) fun r1743 =>
                          un_li r1743 fun x1744 r1745 =>
                          un_li r1745 fun x1746 r1747 =>
                          un_i r1747 fun x1748 r1749 =>
                          un_b r1749 fun x1750 r1751 =>
                          un_i r1751 fun x1752 r1753 =>
                          un_b r1753 fun x1754 r1755 =>
                          un_i r1755 fun x1756 r1757 =>
                          un_nil r1757 <|
                          some [.li (x1744), .li (x1746), .i (x1748), .b (x1750), .i (x1752), .b (x1754), .b (true)])
                         (some [.li (mputK (mputK g_l_k x1714) x1714), .li (mputV (mputK g_l_k x1714) (mputV g_l_k g_l_v x1714 0) x1714 1), .i (g_newest), .b (g_any), .i (g_forgotten), .b (g_forgot), .b (true)])))
                   (br (!g_any)
                      (out (got_drop (mputK g_l_k x1714) (mputV g_l_k g_l_v x1714 0) x1714 true g_forgotten g_forgot x1714) fun r1758 =>
                       un_li r1758 fun x1759 r1760 =>
                       un_li r1760 fun x1761 r1762 =>
                       un_i r1762 fun x1763 r1764 =>
                       un_b r1764 fun x1765 r1766 =>
                       un_i r1766 fun x1767 r1768 =>
                       un_b r1768 fun x1769 r1770 =>
                       un_i r1770 fun x1771 r1772 =>
                       un_nil r1772 <|
                       some [.li (x1759), .li (x1761), .i (x1763), .b (x1765), .i (x1767), .b (x1769), .b (true)])
                      (out (seq_Less g_newest x1714) fun r1773 =>
                       un_b r1773 fun x1774 r1775 =>
                       un_nil r1775 <|
                       br (x1774)
                         (out (got_drop (mputK g_l_k x1714) (mputV g_l_k g_l_v x1714 0) x1714 true g_forgotten g_forgot x1714) fun r1776 =>
                          un_li r1776 fun x1777 r1778 =>
                          un_li r1778 fun x1779 r1780 =>
                          un_i r1780 fun x1781 r1782 =>
                          un_b r1782 fun x1783 r1784 =>
                          un_i r1784 fun x1785 r1786 =>
                          un_b r1786 fun x1787 r1788 =>
                          un_i r1788 fun x1789 r1790 =>
                          un_nil r1790 <|
                          some [.li (x1777), .li (x1779), .i (x1781), .b (x1783), .i (x1785), .b (x1787), .b (true)])
                         (some [.li (mputK g_l_k x1714), .li (mputV g_l_k g_l_v x1714 0), .i (g_newest), .b (g_any), .i (g_forgotten), .b (g_forgot), .b (true)])))))
             (br (mark)
                (br (!g_any)
                   (out (got_drop (mputK (mputK g_l_k x1714) x1714) (mputV (mputK g_l_k x1714) (mputV g_l_k g_l_v x1714 0) x1714 1) x1714 true g_forgotten g_forgot x1714) fun r1791 =>
                    un_li r1791 fun x1792 r1793 =>
                    un_li r1793 fun x1794 r1795 =>
                    un_i r1795 fun x1796 r1797 =>
                    un_b r1797 fun x1798 r1799 =>
                    un_i r1799 fun x1800 r1801 =>
                    un_b r1801 fun x1802 r1803 =>
                    un_i r1803 fun x1804 r1805 =>
                    un_nil r1805 <|
                    some [.li (x1792), .li (x1794), .i (x1796), .b (x1798), .i (x1800), .b (x1802), .b (true)])
                   (out (seq_Less g_newest x1714) fun r1806 =>
                    un_b r1806 fun x1807 r1808 =>
                    un_nil r1808 <|
                    br (x1807)
                      (out (got_drop (mputK (mputK g_l_k x1714) x1714) (mputV (mputK g_l_k x1714) (mputV g_l_k g_l_v x1714 0) x1714 1) x1714 true g_forgotten g_forgot x1714) fun r1809 =>
                       un_li r1809 fun x1810 r1811 =>
                       un_li r1811 fun x1812 r1813 =>
                       un_i r1813 fun x1814 r1815 =>
                       un_b r1815 fun x1816 r1817 =>
                       un_i r1817 fun x1818 r1819 =>
                       un_b r1819 fun x1820 r1821 =>
                       un_i r1821 fun x1822 r1823 =>
                       un_nil r1823 <|
                       some [.li (x1810), .li (x1812), .i (x1814), .b (x1816), .i (x1818), .b (x1820), .b (true)])
                      (some [.li (mputK (mputK g_l_k x1714) x1714), .li (mputV (mputK g_l_k x1714) (mputV g_l_k g_l_v x1714 0) x1714 1), .i (g_newest), .b (g_any), .i (g_forgotten), .b (g_forgot), .b (true)])))
                (br (!g_any)
                   (out (got_drop (mputK g_l_k x1714) (mputV g_l_k g_l_v x1714 0) x1714 true g_forgotten g_forgot x1714) fun r1824 =>
                    un_li r1824 fun x1825 r1826 =>
                    un_li r1826 fun x1827 r1828 =>
                    un_i r1828 fun x1829 r1830 =>
                    un_b r1830 fun x1831 r1832 =>
                    un_i r1832 fun x1833 r1834 =>
                    un_b r1834 fun x1835 r1836 =>
                    un_i r1836 fun x1837 r1838 =>
                    un_nil r1838 <|
                    some [.li (x1825), .li (x1827), .i (x1829), .b (x1831), .i (x1833), .b (x1835), .b (true)])
                   (out (seq_Less g_newest x1714) fun r1839 =>
                    un_b r1839 fun x1840 r1841 =>
                    un_nil r1841 <|
                    br (x1840)
                      (out (got_drop (mputK g_l_k x1714) (mputV g_l_k g_l_v x1714 0) x1714 true g_forgotten g_forgot x1714) fun r1842 =>
                       un_li r1842 fun x1843 r1844 =>
                       un_li r1844 fun x1845 r1846 =>
                       un_i r1846 fun x1847 r1848 =>
                       un_b r1848 fun x1849 r1850 =>
                       un_i r1850 fun x1851 r1852 =>
                       un_b r1852 fun x1853 r1854 =>
                       un_i r1854 fun x1855 r1856 =>
                       un_nil r1856 <|
                       some [.li (x1843), .li (x1845), .i (x1847), .b (x1849), .i (x1851), .b (x1853), .b (true)])
                      (some [.li (mputK g_l_k x1714), .li (mputV g_l_k g_l_v x1714 0), .i (g_newest), .b (g_any), .i (g_forgotten), .b (g_forgot), .b (true)]))))))
       (br (g_forgot)
          (out (seq_Less g_forgotten x1714) fun r1857 =>
           un_b r1857 fun x1858 r1859 =>
           un_nil r1859 <|
           br (!x1858)
             (some [.li (g_l_k), .li (g_l_v), .i (g_newest), .b (g_any), .i (g_forgotten), .b (g_forgot), .b (false)])
             (br (mark)
                (br (!g_any)
                   (out (got_drop (mputK (mputK g_l_k x1714) x1714) (mputV (mputK g_l_k x1714) (mputV g_l_k g_l_v x1714 0) x1714 1) x1714 true g_forgotten g_forgot x1714) fun r1860 =>
                    un_li r1860 fun x1861 r1862 =>
                    un_li r1862 fun x1863 r1864 =>
                    un_i r1864 fun x1865 r1866 =>
                    un_b r1866 fun x1867 r1868 =>
                    un_i r1868 fun x1869 r1870 =>
                    un_b r1870 fun x1871 r1872 =>
                    un_i r1872 fun x1873 r1874 =>
                    un_nil r1874 <|
                    some [.li (x1861), .li (x1863), .i (x1865), .b (x1867), .i (x1869), .b (x1871), .b (true)])
                   (out (seq_Less g_newest x1714) fun r1875 =>
                    un_b r1875 fun x1876 r1877 =>
                    un_nil r1877 <|
                    br (x1876)
                      (out (got_drop (mputK (mputK g_l_k x1714) x1714) (mputV (mputK g_l_k x1714) (mputV g_l_k g_l_v x1714 0) x1714 1) x1714 true g_forgotten g_forgot x1714) fun r1878 =>
                       un_li r1878 fun x1879 r1880 =>
                       un_li r1880 fun x1881 r1882 =>
                       un_i r1882 fun x1883 r1884 =>
                       un_b r1884 fun x1885 r1886 =>
                       un_i r1886 fun x1887 r1888 =>
                       un_b r1888 fun x1889 r1890 =>
                       un_i r1890 fun x1891 r1892 =>
                       un_nil r1892 <|
                       some [.li (x1879), .li (x1881), .i (x1883), .b (x1885), .i (x1887), .b (x1889), .b (true)])
                      (some [.li (mputK (mputK g_l_k x1714) x1714), .li (mputV (mputK g_l_k x1714) (mputV g_l_k g_l_v x1714 0) x1714 1), .i (g_newest), .b (g_any), .i (g_forgotten), .b (g_forgot), .b (true)])))
                (br (!g_any)
                   (out (got_drop (mputK g_l_k x1714) (mputV g_l_k g_l_v x1714 0) x1714 true g_forgotten g_forgot x1714) fun r1893 =>
                    un_li r1893 fun x1894 r1895 =>
                    un_li r1895 fun x1896 r1897 =>
                    un_i r1897 fun x1898 r1899 =>
                    un_b r1899 fun x1900 r1901 =>
                    un_i r1901 fun x1902 r1903 =>
                    un_b r1903 fun x1904 r1905 =>
                    un_i r1905 fun x1906 r1907 =>
                    un_nil r1907 <|
                    some [.li (x1894), .li (x1896), .i (x1898), .b (x1900), .i (x1902), .b (x1904), .b (true)])
                   (out (seq_Less g_newest x1714) fun r1908 =>
                    un_b r1908 fun x1909 r1910 =>
                    un_nil r1910 <|
                    br (x1909)
                      (out (got_drop (mputK g_l_k x1714) (mputV g_l_k g_l_v x1714 0) x1714 true g_forgotten g_forgot x1714) fun r1911 =>
                       un_li r1911 fun x1912 r1913 =>
                       un_li r1913 fun x1914 r1915 =>
                       un_i r1915 fun x1916 r1917 =>
                       un_b r1917 fun x1918 r1919 =>
                       un_i r1919 fun x1920 r1921 =>
                       un_b r1921 fun x1922 r1923 =>
                       un_i r1923 fun x1924 r1925 =>
                       un_nil r1925 <|
                       some [.li (x1912), .li (x1914), .i (x1916), .b (x1918), .i (x1920), .b (x1922), .b (true)])
                      (some [.li (mputK g_l_k x1714), .li (mputV g_l_k g_l_v x1714 0), .i (g_newest), .b (g_any), .i (g_forgotten), .b (g_forgot), .b (true)])))))
          (br (mark)
             (br (!g_any)
                (out (got_drop (mputK (mputK g_l_k x1714) x1714) (mputV (mputK g_l_k x1714) (mputV g_l_k g_l_v x1714 0) x1714 1) x1714 true g_forgotten g_forgot x1714) fun r1926 =>
                 un_li r1926 fun x1927 r1928 =>
                 un_li r1928 fun x1929 r1930 =>
                 un_i r1930 fun x1931 r1932 =>
                 un_b r1932 fun x1933 r1934 =>
                 un_i r1934 fun x1935 r1936 =>
                 un_b r1936 fun x1937 r1938 =>
                 un_i r1938 fun x1939 r1940 =>
                 un_nil r1940 <|
                 some [.li (x1927), .li (x1929), .i (x1931), .b (x1933), .i (x1935), .b (x1937), .b (true)])
                (out (seq_Less g_newest x1714) fun r1941 =>
                 un_b r1941 fun x1942 r1943 =>
                 un_nil r1943 <|
                 br (x1942)
                   (out (got_drop (mputK (mputK g_l_k x1714) x1714) (mputV (mputK g_l_k x1714) (mputV g_l_k g_l_v x1714 0) x1714 1) x1714 true g_forgotten g_forgot x1714) fun r1944 =>
                    un_li r1944 fun x1945 r1946 =>
                    un_li r1946 fun x1947 r1948 =>
                    un_i r1948 fun x1949 r1950 =>
                    un_b r1950 fun x1951 r1952 =>
                    un_i r1952 fun x1953 r1954 =>
                    un_b r1954 fun x1955 r1956 =>
                    un_i r1956 fun x1957 r1958 =>
                    un_nil r1958 <|
                    some [.li (x1945), .li (x1947), .i (x1949), .b (x1951), .i (x1953), .b (x1955), .b (true)])
                   (some [.li (mputK (mputK g_l_k x1714) x1714), .li (mputV (mputK g_l_k x1714) (mputV g_l_k g_l_v x1714 0) x1714 1), .i (g_newest), .b (g_any), .i (g_forgotten), .b (g_forgot), .b (true)])))
             (br (!g_any)
                (out (got_drop (mputK g_l_k x1714) (mputV g_l_k g_l_v x1714 0) x1714 true g_forgotten g_forgot x1714) fun r1959 =>
                 un_li r1959 fun x1960 r1961 =>
                 un_li r1961 fun x1962 r1963 =>
                 un_i r1963 fun x1964 r1965 =>
                 un_b r1965 fun x1966 r1967 =>
                 un_i r1967 fun x1968 r1969 =>
                 un_b r1969 fun x1970 r1971 =>
                 un_i r1971 fun x1972 r1973 =>
                 un_nil r1973 <|
                 some [.li (x1960), .li (x1962), .i (x1964), .b (x1966), .i (x1968), .b (x1970), .b (true)])
                (out (seq_Less g_newest x1714) fun r1974 =>
                 un_b r1974 fun x1975 r1976 =>
                 un_nil r1976 <|
                 br (x1975)
                   (out (got_drop (mputK g_l_k x1714) (mputV g_l_k g_l_v x1714 0) x1714 true g_forgotten g_forgot x1714) fun r1977 =>
                    un_li r1977 fun x1978 r1979 =>
                    un_li r1979 fun x1980 r1981 =>
                    un_i r1981 fun x1982 r1983 =>
                    un_b r1983 fun x1984 r1985 =>
                    un_i r1985 fun x1986 r1987 =>
                    un_b r1987 fun x1988 r1989 =>
                    un_i r1989 fun x1990 r1991 =>
                    un_nil r1991 <|
                    some [.li (x1978), .li (x1980), .i (x1982), .b (x1984), .i (x1986), .b (x1988), .b (true)])
                   (some [.li (mputK g_l_k x1714), .li (mputV g_l_k g_l_v x1714 0), .i (g_newest), .b (g_any), .i (g_forgotten), .b (g_forgot), .b (true)]))))))
def got_Cells_5_B  {α : Type} (kx : Nat → List Leaf → Option α) (kr : List Leaf → Option α) (again : List Int → List Int → List Int → Int → Bool → Int → Bool → Int → Int → Option α) (g_l_k : List Int) (g_l_v : List Int) (states : List Int) (g_newest : Int) (g_any : Bool) (g_forgotten : Int) (g_forgot : Bool) (n2 : Int) (left : Int) : Option α :=
  br (decide (left > 0))
    (one (mget 0 g_l_k g_l_v n2) fun x2001 =>
     br (!mhas g_l_k n2)
       (chk (decide (Int.ofNat (List.length states) = Int.ofNat (List.length states)) && true && decide ((Int.ofNat (List.length states) + (↑(1 : Nat) : Int)) * (↑(nat_lit 8) : Int) ≤ (140737488355328 : Int) ∧ Int.ofNat (List.length states) + (↑(1 : Nat) : Int) ≤ (4611686018427387904 : Int))) <|
        out (seq_Add n2 (-1)) fun r2002 =>
        un_i r2002 fun x2003 r2004 =>
        un_nil r2004 <|
        chk (decide (Int.ofNat (List.length states) + (↑(1 : Nat) : Int) = Int.ofNat (List.length (states ++ [(3 : Int)]))) && true) <|
        again (g_l_k) (g_l_v) (states ++ [(3 : Int)]) (g_newest) (g_any) (g_forgotten) (g_forgot) (x2003) (left))
       (one (subI .i64 left 1) fun x2005 =>
        chk (decide (Int.ofNat (List.length states) = Int.ofNat (List.length states)) && true && decide ((Int.ofNat (List.length states) + (↑(1 : Nat) : Int)) * (↑(nat_lit 8) : Int) ≤ (140737488355328 : Int) ∧ Int.ofNat (List.length states) + (↑(1 : Nat) : Int) ≤ (4611686018427387904 : Int))) <|
        out (seq_Add n2 (-1)) fun r2006 =>
        un_i r2006 fun x2007 r2008 =>
        un_nil r2008 <|
        chk (decide (Int.ofNat (List.length states) + (↑(1 : Nat) : Int) = Int.ofNat (List.length (states ++ [x2001]))) && true) <|
        again (g_l_k) (g_l_v) (states ++ [x2001]) (g_newest) (g_any) (g_forgotten) (g_forgot) (x2007) (x2005)))
    (chk (decide (Int.ofNat (List.length states) = Int.ofNat (List.length states)) && true) <|
     kx 0 [.li (g_l_k), .li (g_l_v), .li (states), .i (g_newest), .b (g_any), .i (g_forgotten), .b (g_forgot)])
def got_Cells_5_L {α : Type} (kx : Nat → List Leaf → Option α) (kr : List Leaf → Option α) : Nat → List Int → List Int → List Int → Int → Bool → Int → Bool → Int → Int → Option α
  | 0, _, _, _, _, _, _, _, _, _ => none
  | n + 1, g_l_k, g_l_v, states, g_newest, g_any, g_forgotten, g_forgot, n2, left => got_Cells_5_B  kx kr (got_Cells_5_L kx kr n) g_l_k g_l_v states g_newest g_any g_forgotten g_forgot n2 left
def got_Cells_5_F (L5 : ({β : Type} → (Nat → List Leaf → Option β) → (List Leaf → Option β) → Nat → List Int → List Int → List Int → Int → Bool → Int → Bool → Int → Int → Option β)) {α : Type} (n : Nat) (ls : List Leaf) (kx : Nat → List Leaf → Option α) (kr : List Leaf → Option α) : Option α := un_li ls fun g_l_k rr => un_li rr fun g_l_v rr => un_li rr fun states rr => un_i rr fun g_newest rr => un_b rr fun g_any rr => un_i rr fun g_forgotten rr => un_b rr fun g_forgot rr => un_i rr fun n2 rr => un_i rr fun left rr => un_nil rr (L5 kx kr n g_l_k g_l_v states g_newest g_any g_forgotten g_forgot n2 left)
def got_Cells_d (L5 : ({β : Type} → (Nat → List Leaf → Option β) → (List Leaf → Option β) → Nat → List Int → List Int → List Int → Int → Bool → Int → Bool → Int → Int → Option β)) (g_l_k : List Int) (g_l_v : List Int) (g_newest : Int) (g_any : Bool) (g_forgotten : Int) (g_forgot : Bool) : Option (List Leaf) :=
  one ((↑(List.length g_l_k) : Int)) fun x2009 =>
  chk (decide ((0 : Int) = Int.ofNat (0 : Nat)) && true) <|
  L5
    (fun i2010 r2011 =>
     br (Nat.beq 0 i2010)
       (un_li r2011 fun x2012 r2013 =>
        un_li r2013 fun x2014 r2015 =>
        un_li r2015 fun x2016 r2017 =>
        un_i r2017 fun x2018 r2019 =>
        un_b r2019 fun x2020 r2021 =>
        un_i r2021 fun x2022 r2023 =>
        un_b r2023 fun x2024 r2025 =>
        un_nil r2025 <|
        chk (decide (Int.ofNat (List.length x2016) = Int.ofNat (List.length x2016)) && true) <|
        out (vec_Of x2016) fun r2026 =>
        un_li r2026 fun x2027 r2028 =>
        un_li r2028 fun x2029 r2030 =>
        un_nil r2030 <|
        chk (decide (Int.ofNat (List.length x2027) = Int.ofNat (List.length x2027)) && true) <|
        some [.li (x2012), .li (x2014), .li (x2027), .li (x2029), .i (x2018), .b (x2020), .i (x2022), .b (x2024)])
       (none))
    (fun r2031 =>
     un_nil r2031 <|
     none)
    top (g_l_k) (g_l_v) ([]) (g_newest) (g_any) (g_forgotten) (g_forgot) (g_newest) (x2009)
def got_Cells (g_l_k : List Int) (g_l_v : List Int) (g_newest : Int) (g_any : Bool) (g_forgotten : Int) (g_forgot : Bool) : Option (List Leaf) := got_Cells_d @got_Cells_5_L g_l_k g_l_v g_newest g_any g_forgotten g_forgot
def got_Newest (g_l_k : List Int) (g_l_v : List Int) (g_newest : Int) (g_any : Bool) (g_forgotten : Int) (g_forgot : Bool) : Option (List Leaf) :=
  br (!g_any)
    (some [.i (0), .b (false)])
    (some [.i (g_newest), .b (true)])
end Go.Sx.T

