import Derived.Test.YtllgbgponmkijaaGreatDoorYFixSpec
set_option linter.all false
namespace Go.Sx.T
open Go Go.Sx
def ref_Diff (a : Int) (b : Int) : Option (List Leaf) :=
  out (ref_Seq a) fun r1737 =>
  un_i r1737 fun x1738 r1739 =>
  un_nil r1739 <|
  one (addI .u64 x1738 281474976710656) fun x1740 =>
  out (ref_Seq b) fun r1741 =>
  un_i r1741 fun x1742 r1743 =>
  un_nil r1743 <|
  one (subI .u64 x1740 x1742) fun x1744 =>
  one (remI .u64 x1744 281474976710656) fun x1745 =>
  br (decide (x1745 ≥ 140737488355328))
    (one (wrapI .i64 x1745) fun x1746 =>
     one (subI .i64 x1746 281474976710656) fun x1747 =>
     some [.i (x1747)])
    (one (wrapI .i64 x1745) fun x1748 =>
     some [.i (x1748)])
def ref_Less (a : Int) (b : Int) : Option (List Leaf) :=
  out (ref_Diff a b) fun r1749 =>
  un_i r1749 fun x1750 r1751 =>
  un_nil r1751 <|
  some [.b (decide (x1750 < 0))]
def ref_In (low : Int) (s : Int) (high : Int) : Option (List Leaf) :=
  one (addI .u64 s 281474976710656) fun x1752 =>
  out (ref_Seq low) fun r1753 =>
  un_i r1753 fun x1754 r1755 =>
  un_nil r1755 <|
  one (subI .u64 x1752 x1754) fun x1756 =>
  out (ref_Seq x1756) fun r1757 =>
  un_i r1757 fun x1758 r1759 =>
  un_nil r1759 <|
  one (addI .u64 high 281474976710656) fun x1760 =>
  out (ref_Seq low) fun r1761 =>
  un_i r1761 fun x1762 r1763 =>
  un_nil r1763 <|
  one (subI .u64 x1760 x1762) fun x1764 =>
  out (ref_Seq x1764) fun r1765 =>
  un_i r1765 fun x1766 r1767 =>
  un_nil r1767 <|
  some [.b (decide (x1758 ≤ x1766))]
def r18_further (a : Int) (b : Int) : Option (List Leaf) :=
  out (ref_Less a b) fun r1768 =>
  un_b r1768 fun x1769 r1770 =>
  un_nil r1770 <|
  br (x1769)
    (out (ref_Seq b) fun r1771 =>
     un_i r1771 fun x1772 r1773 =>
     un_nil r1773 <|
     some [.i (x1772)])
    (out (ref_Seq a) fun r1774 =>
     un_i r1774 fun x1775 r1776 =>
     un_nil r1776 <|
     some [.i (x1775)])
def r18_Windows (v_State : Int) (v_Gss : Int) (v_Gsr : Int) (v_Gar : Int) (v_Iss : Int) (v_Isr : Int) (v_Mine : Int) (v_Theirs : Int) : Option (List Leaf) :=
  one (minI v_Mine 1000) fun x1777 =>
  one (maxI 32 x1777) fun x1778 =>
  one (minI v_Theirs 1000) fun x1779 =>
  one (maxI 32 x1779) fun x1780 =>
  one (quoI .i64 x1780 4) fun x1781 =>
  one (subI .i64 1 x1781) fun x1782 =>
  out (ref_Step v_Gsr x1782) fun r1783 =>
  un_i r1783 fun x1784 r1785 =>
  un_nil r1785 <|
  out (r18_further x1784 v_Isr) fun r1786 =>
  un_i r1786 fun x1787 r1788 =>
  un_nil r1788 <|
  one (mulI .i64 3 x1780) fun x1789 =>
  one (quoI .i64 x1789 4) fun x1790 =>
  out (ref_Step v_Gsr x1790) fun r1791 =>
  un_i r1791 fun x1792 r1793 =>
  un_nil r1793 <|
  one (subI .i64 1 x1778) fun x1794 =>
  out (ref_Step v_Gss x1794) fun r1795 =>
  un_i r1795 fun x1796 r1797 =>
  un_nil r1797 <|
  out (r18_further x1796 v_Iss) fun r1798 =>
  un_i r1798 fun x1799 r1800 =>
  un_nil r1800 <|
  out (ref_Seq v_Gss) fun r1801 =>
  un_i r1801 fun x1802 r1803 =>
  un_nil r1803 <|
  some [.i (x1787), .i (x1792), .i (x1799), .i (x1802)]
def r18_if2 (ok : Bool) (a : Int) (b : Int) : Option (List Leaf) :=
  br (ok)
    (some [.i (a)])
    (some [.i (b)])
def r18_Check (v_State : Int) (v_Gss : Int) (v_Gsr : Int) (v_Gar : Int) (v_Iss : Int) (v_Isr : Int) (v_Mine : Int) (v_Theirs : Int) (p_Head_Src : Int) (p_Head_Dst : Int) (p_Head_Off : Int) (p_Head_CCVal : Int) (p_Head_CsCov : Int) (p_Head_Sum : Int) (p_Head_Type : Int) (p_Head_X : Bool) (p_Head_Seq : Int) (p_Head_Ack : Int) (p_Head_Service : Int) (p_Head_Code : Int) (p_Head_Info_0 : Int) (p_Head_Info_1 : Int) (p_Head_Info_2 : Int) (p_Data : ByteArray) : Option (List Leaf) :=
  out (r18_Windows v_State v_Gss v_Gsr v_Gar v_Iss v_Isr v_Mine v_Theirs) fun r1804 =>
  un_i r1804 fun x1805 r1806 =>
  un_i r1806 fun x1807 r1808 =>
  un_i r1808 fun x1809 r1810 =>
  un_i r1810 fun x1811 r1812 =>
  un_nil r1812 <|
  out (ref_In x1809 p_Head_Ack x1811) fun r1813 =>
  un_b r1813 fun x1814 r1815 =>
  un_nil r1815 <|
  out (ref_In x1805 p_Head_Seq x1807) fun r1816 =>
  un_b r1816 fun x1817 r1818 =>
  un_nil r1818 <|
  out (ref_Step v_Gsr 1) fun r1819 =>
  un_i r1819 fun x1820 r1821 =>
  un_nil r1821 <|
  out (ref_In x1820 p_Head_Seq x1807) fun r1822 =>
  un_b r1822 fun x1823 r1824 =>
  un_nil r1824 <|
  br (x1823)
    (out (ref_In v_Gar p_Head_Ack x1811) fun r1825 =>
     un_b r1825 fun x1826 r1827 =>
     un_nil r1827 <|
     br (v_State == 0)
       (br (v_State == 0)
          (some [.i (3)])
          (br (v_State == 1)
             (out (r18_if2 (p_Head_Type == 0) 1 3) fun r1828 =>
              un_i r1828 fun x1829 r1830 =>
              un_nil r1830 <|
              some [.i (x1829)])
             (br (v_State == 2)
                (br (p_Head_Type == 1)
                   (out (r18_if2 x1814 1 3) fun r1831 =>
                    un_i r1831 fun x1832 r1833 =>
                    un_nil r1833 <|
                    some [.i (x1832)])
                   (br (p_Head_Type == 7)
                      (out (r18_if2 x1814 1 3) fun r1834 =>
                       un_i r1834 fun x1835 r1836 =>
                       un_nil r1836 <|
                       some [.i (x1835)])
                      (out (r18_if2 false 1 3) fun r1837 =>
                       un_i r1837 fun x1838 r1839 =>
                       un_nil r1839 <|
                       some [.i (x1838)])))
                (br (p_Head_Type == 0)
                   (br (v_State == 3)
                      (out (r18_if2 x1817 1 2) fun r1840 =>
                       un_i r1840 fun x1841 r1842 =>
                       un_nil r1842 <|
                       some [.i (x1841)])
                      (out (r18_if2 false 1 2) fun r1843 =>
                       un_i r1843 fun x1844 r1845 =>
                       un_nil r1845 <|
                       some [.i (x1844)]))
                   (br (p_Head_Type == 1)
                      (some [.i (2)])
                      (br (p_Head_Type == 2)
                         (out (r18_if2 x1817 1 2) fun r1846 =>
                          un_i r1846 fun x1847 r1848 =>
                          un_nil r1848 <|
                          some [.i (x1847)])
                         (br (p_Head_Type == 3)
                            (br (p_Head_Type == 3)
                               (br (x1817)
                                  (out (r18_if2 x1814 1 2) fun r1849 =>
                                   un_i r1849 fun x1850 r1851 =>
                                   un_nil r1851 <|
                                   some [.i (x1850)])
                                  (out (r18_if2 false 1 2) fun r1852 =>
                                   un_i r1852 fun x1853 r1854 =>
                                   un_nil r1854 <|
                                   some [.i (x1853)]))
                               (br (p_Head_Type == 5)
                                  (br (p_Head_Type == 5)
                                     (out (r18_if2 x1826 1 2) fun r1855 =>
                                      un_i r1855 fun x1856 r1857 =>
                                      un_nil r1857 <|
                                      some [.i (x1856)])
                                     (out (ref_Less p_Head_Seq x1805) fun r1858 =>
                                      un_b r1858 fun x1859 r1860 =>
                                      un_nil r1860 <|
                                      br (!x1859)
                                        (out (r18_if2 x1814 1 3) fun r1861 =>
                                         un_i r1861 fun x1862 r1863 =>
                                         un_nil r1863 <|
                                         some [.i (x1862)])
                                        (out (r18_if2 false 1 3) fun r1864 =>
                                         un_i r1864 fun x1865 r1866 =>
                                         un_nil r1866 <|
                                         some [.i (x1865)])))
                                  (br (p_Head_Type == 6)
                                     (br (p_Head_Type == 6)
                                        (out (r18_if2 x1826 1 2) fun r1867 =>
                                         un_i r1867 fun x1868 r1869 =>
                                         un_nil r1869 <|
                                         some [.i (x1868)])
                                        (out (ref_Less p_Head_Seq x1805) fun r1870 =>
                                         un_b r1870 fun x1871 r1872 =>
                                         un_nil r1872 <|
                                         br (!x1871)
                                           (out (r18_if2 x1814 1 3) fun r1873 =>
                                            un_i r1873 fun x1874 r1875 =>
                                            un_nil r1875 <|
                                            some [.i (x1874)])
                                           (out (r18_if2 false 1 3) fun r1876 =>
                                            un_i r1876 fun x1877 r1878 =>
                                            un_nil r1878 <|
                                            some [.i (x1877)])))
                                     (br (p_Head_Type == 7)
                                        (out (r18_if2 x1826 1 2) fun r1879 =>
                                         un_i r1879 fun x1880 r1881 =>
                                         un_nil r1881 <|
                                         some [.i (x1880)])
                                        (out (ref_Less p_Head_Seq x1805) fun r1882 =>
                                         un_b r1882 fun x1883 r1884 =>
                                         un_nil r1884 <|
                                         br (!x1883)
                                           (out (r18_if2 x1814 1 3) fun r1885 =>
                                            un_i r1885 fun x1886 r1887 =>
                                            un_nil r1887 <|
                                            some [.i (x1886)])
                                           (out (r18_if2 false 1 3) fun r1888 =>
                                            un_i r1888 fun x1889 r1890 =>
                                            un_nil r1890 <|
                                            some [.i (x1889)]))))))
                            (br (p_Head_Type == 4)
                               (br (x1817)
                                  (out (r18_if2 x1814 1 2) fun r1891 =>
                                   un_i r1891 fun x1892 r1893 =>
                                   un_nil r1893 <|
                                   some [.i (x1892)])
                                  (out (r18_if2 false 1 2) fun r1894 =>
                                   un_i r1894 fun x1895 r1896 =>
                                   un_nil r1896 <|
                                   some [.i (x1895)]))
                               (br (p_Head_Type == 5)
                                  (br (p_Head_Type == 5)
                                     (out (r18_if2 x1826 1 2) fun r1897 =>
                                      un_i r1897 fun x1898 r1899 =>
                                      un_nil r1899 <|
                                      some [.i (x1898)])
                                     (out (ref_Less p_Head_Seq x1805) fun r1900 =>
                                      un_b r1900 fun x1901 r1902 =>
                                      un_nil r1902 <|
                                      br (!x1901)
                                        (out (r18_if2 x1814 1 3) fun r1903 =>
                                         un_i r1903 fun x1904 r1905 =>
                                         un_nil r1905 <|
                                         some [.i (x1904)])
                                        (out (r18_if2 false 1 3) fun r1906 =>
                                         un_i r1906 fun x1907 r1908 =>
                                         un_nil r1908 <|
                                         some [.i (x1907)])))
                                  (br (p_Head_Type == 6)
                                     (br (p_Head_Type == 6)
                                        (out (r18_if2 x1826 1 2) fun r1909 =>
                                         un_i r1909 fun x1910 r1911 =>
                                         un_nil r1911 <|
                                         some [.i (x1910)])
                                        (out (ref_Less p_Head_Seq x1805) fun r1912 =>
                                         un_b r1912 fun x1913 r1914 =>
                                         un_nil r1914 <|
                                         br (!x1913)
                                           (out (r18_if2 x1814 1 3) fun r1915 =>
                                            un_i r1915 fun x1916 r1917 =>
                                            un_nil r1917 <|
                                            some [.i (x1916)])
                                           (out (r18_if2 false 1 3) fun r1918 =>
                                            un_i r1918 fun x1919 r1920 =>
                                            un_nil r1920 <|
                                            some [.i (x1919)])))
                                     (br (p_Head_Type == 7)
                                        (out (r18_if2 x1826 1 2) fun r1921 =>
                                         un_i r1921 fun x1922 r1923 =>
                                         un_nil r1923 <|
                                         some [.i (x1922)])
                                        (out (ref_Less p_Head_Seq x1805) fun r1924 =>
                                         un_b r1924 fun x1925 r1926 =>
                                         un_nil r1926 <|
                                         br (!x1925)
                                           (out (r18_if2 x1814 1 3) fun r1927 =>
                                            un_i r1927 fun x1928 r1929 =>
                                            un_nil r1929 <|
                                            some [.i (x1928)])
                                           (out (r18_if2 false 1 3) fun r1930 =>
                                            un_i r1930 fun x1931 r1932 =>
                                            un_nil r1932 <|
                                            some [.i (x1931)])))))))))))))
       (br (v_State == 8)
          (some [.i (3)])
          (br (v_State == 1)
             (out (r18_if2 (p_Head_Type == 0) 1 3) fun r1933 =>
              un_i r1933 fun x1934 r1935 =>
              un_nil r1935 <|
              some [.i (x1934)])
             (br (v_State == 2)
                (br (p_Head_Type == 1)
                   (out (r18_if2 x1814 1 3) fun r1936 =>
                    un_i r1936 fun x1937 r1938 =>
                    un_nil r1938 <|
                    some [.i (x1937)])
                   (br (p_Head_Type == 7)
                      (out (r18_if2 x1814 1 3) fun r1939 =>
                       un_i r1939 fun x1940 r1941 =>
                       un_nil r1941 <|
                       some [.i (x1940)])
                      (out (r18_if2 false 1 3) fun r1942 =>
                       un_i r1942 fun x1943 r1944 =>
                       un_nil r1944 <|
                       some [.i (x1943)])))
                (br (p_Head_Type == 0)
                   (br (v_State == 3)
                      (out (r18_if2 x1817 1 2) fun r1945 =>
                       un_i r1945 fun x1946 r1947 =>
                       un_nil r1947 <|
                       some [.i (x1946)])
                      (out (r18_if2 false 1 2) fun r1948 =>
                       un_i r1948 fun x1949 r1950 =>
                       un_nil r1950 <|
                       some [.i (x1949)]))
                   (br (p_Head_Type == 1)
                      (some [.i (2)])
                      (br (p_Head_Type == 2)
                         (out (r18_if2 x1817 1 2) fun r1951 =>
                          un_i r1951 fun x1952 r1953 =>
                          un_nil r1953 <|
                          some [.i (x1952)])
                         (br (p_Head_Type == 3)
                            (br (p_Head_Type == 3)
                               (br (x1817)
                                  (out (r18_if2 x1814 1 2) fun r1954 =>
                                   un_i r1954 fun x1955 r1956 =>
                                   un_nil r1956 <|
                                   some [.i (x1955)])
                                  (out (r18_if2 false 1 2) fun r1957 =>
                                   un_i r1957 fun x1958 r1959 =>
                                   un_nil r1959 <|
                                   some [.i (x1958)]))
                               (br (p_Head_Type == 5)
                                  (br (p_Head_Type == 5)
                                     (out (r18_if2 x1826 1 2) fun r1960 =>
                                      un_i r1960 fun x1961 r1962 =>
                                      un_nil r1962 <|
                                      some [.i (x1961)])
                                     (out (ref_Less p_Head_Seq x1805) fun r1963 =>
                                      un_b r1963 fun x1964 r1965 =>
                                      un_nil r1965 <|
                                      br (!x1964)
                                        (out (r18_if2 x1814 1 3) fun r1966 =>
                                         un_i r1966 fun x1967 r1968 =>
                                         un_nil r1968 <|
                                         some [.i (x1967)])
                                        (out (r18_if2 false 1 3) fun r1969 =>
                                         un_i r1969 fun x1970 r1971 =>
                                         un_nil r1971 <|
                                         some [.i (x1970)])))
                                  (br (p_Head_Type == 6)
                                     (br (p_Head_Type == 6)
                                        (out (r18_if2 x1826 1 2) fun r1972 =>
                                         un_i r1972 fun x1973 r1974 =>
                                         un_nil r1974 <|
                                         some [.i (x1973)])
                                        (out (ref_Less p_Head_Seq x1805) fun r1975 =>
                                         un_b r1975 fun x1976 r1977 =>
                                         un_nil r1977 <|
                                         br (!x1976)
                                           (out (r18_if2 x1814 1 3) fun r1978 =>
                                            un_i r1978 fun x1979 r1980 =>
                                            un_nil r1980 <|
                                            some [.i (x1979)])
                                           (out (r18_if2 false 1 3) fun r1981 =>
                                            un_i r1981 fun x1982 r1983 =>
                                            un_nil r1983 <|
                                            some [.i (x1982)])))
                                     (br (p_Head_Type == 7)
                                        (out (r18_if2 x1826 1 2) fun r1984 =>
                                         un_i r1984 fun x1985 r1986 =>
                                         un_nil r1986 <|
                                         some [.i (x1985)])
                                        (out (ref_Less p_Head_Seq x1805) fun r1987 =>
                                         un_b r1987 fun x1988 r1989 =>
                                         un_nil r1989 <|
                                         br (!x1988)
                                           (out (r18_if2 x1814 1 3) fun r1990 =>
                                            un_i r1990 fun x1991 r1992 =>
                                            un_nil r1992 <|
                                            some [.i (x1991)])
                                           (out (r18_if2 false 1 3) fun r1993 =>
                                            un_i r1993 fun x1994 r1995 =>
                                            un_nil r1995 <|
                                            some [.i (x1994)]))))))
                            (br (p_Head_Type == 4)
                               (br (x1817)
                                  (out (r18_if2 x1814 1 2) fun r1996 =>
                                   un_i r1996 fun x1997 r1998 =>
                                   un_nil r1998 <|
                                   some [.i (x1997)])
                                  (out (r18_if2 false 1 2) fun r1999 =>
                                   un_i r1999 fun x2000 r2001 =>
                                   un_nil r2001 <|
                                   some [.i (x2000)]))
                               (br (p_Head_Type == 5)
                                  (br (p_Head_Type == 5)
                                     (out (r18_if2 x1826 1 2) fun r2002 =>
                                      un_i r2002 fun x2003 r2004 =>
                                      un_nil r2004 <|
                                      some [.i (x2003)])
                                     (out (ref_Less p_Head_Seq x1805) fun r2005 =>
                                      un_b r2005 fun x2006 r2007 =>
                                      un_nil r2007 <|
                                      br (!x2006)
                                        (out (r18_if2 x1814 1 3) fun r2008 =>
                                         un_i r2008 fun x2009 r2010 =>
                                         un_nil r2010 <|
                                         some [.i (x2009)])
                                        (out (r18_if2 false 1 3) fun r2011 =>
                                         un_i r2011 fun x2012 r2013 =>
                                         un_nil r2013 <|
                                         some [.i (x2012)])))
                                  (br (p_Head_Type == 6)
                                     (br (p_Head_Type == 6)
                                        (out (r18_if2 x1826 1 2) fun r2014 =>
                                         un_i r2014 fun x2015 r2016 =>
                                         un_nil r2016 <|
                                         some [.i (x2015)])
                                        (out (ref_Less p_Head_Seq x1805) fun r2017 =>
                                         un_b r2017 fun x2018 r2019 =>
                                         un_nil r2019 <|
                                         br (!x2018)
                                           (out (r18_if2 x1814 1 3) fun r2020 =>
                                            un_i r2020 fun x2021 r2022 =>
                                            un_nil r2022 <|
                                            some [.i (x2021)])
                                           (out (r18_if2 false 1 3) fun r2023 =>
                                            un_i r2023 fun x2024 r2025 =>
                                            un_nil r2025 <|
                                            some [.i (x2024)])))
                                     (br (p_Head_Type == 7)
                                        (out (r18_if2 x1826 1 2) fun r2026 =>
                                         un_i r2026 fun x2027 r2028 =>
                                         un_nil r2028 <|
                                         some [.i (x2027)])
                                        (out (ref_Less p_Head_Seq x1805) fun r2029 =>
                                         un_b r2029 fun x2030 r2031 =>
                                         un_nil r2031 <|
                                         br (!x2030)
                                           (out (r18_if2 x1814 1 3) fun r2032 =>
                                            un_i r2032 fun x2033 r2034 =>
                                            un_nil r2034 <|
                                            some [.i (x2033)])
                                           (out (r18_if2 false 1 3) fun r2035 =>
                                            un_i r2035 fun x2036 r2037 =>
                                            un_nil r2037 <|
                                            some [.i (x2036)]))))))))))))))
    (br (v_State == 0)
       (br (v_State == 0)
          (some [.i (3)])
          (br (v_State == 1)
             (out (r18_if2 (p_Head_Type == 0) 1 3) fun r2038 =>
              un_i r2038 fun x2039 r2040 =>
              un_nil r2040 <|
              some [.i (x2039)])
             (br (v_State == 2)
                (br (p_Head_Type == 1)
                   (out (r18_if2 x1814 1 3) fun r2041 =>
                    un_i r2041 fun x2042 r2043 =>
                    un_nil r2043 <|
                    some [.i (x2042)])
                   (br (p_Head_Type == 7)
                      (out (r18_if2 x1814 1 3) fun r2044 =>
                       un_i r2044 fun x2045 r2046 =>
                       un_nil r2046 <|
                       some [.i (x2045)])
                      (out (r18_if2 false 1 3) fun r2047 =>
                       un_i r2047 fun x2048 r2049 =>
                       un_nil r2049 <|
                       some [.i (x2048)])))
                (br (p_Head_Type == 0)
                   (br (v_State == 3)
                      (out (r18_if2 x1817 1 2) fun r2050 =>
                       un_i r2050 fun x2051 r2052 =>
                       un_nil r2052 <|
                       some [.i (x2051)])
                      (out (r18_if2 false 1 2) fun r2053 =>
                       un_i r2053 fun x2054 r2055 =>
                       un_nil r2055 <|
                       some [.i (x2054)]))
                   (br (p_Head_Type == 1)
                      (some [.i (2)])
                      (br (p_Head_Type == 2)
                         (out (r18_if2 x1817 1 2) fun r2056 =>
                          un_i r2056 fun x2057 r2058 =>
                          un_nil r2058 <|
                          some [.i (x2057)])
                         (br (p_Head_Type == 3)
                            (br (p_Head_Type == 3)
                               (br (x1817)
                                  (out (r18_if2 x1814 1 2) fun r2059 =>
                                   un_i r2059 fun x2060 r2061 =>
                                   un_nil r2061 <|
                                   some [.i (x2060)])
                                  (out (r18_if2 false 1 2) fun r2062 =>
                                   un_i r2062 fun x2063 r2064 =>
                                   un_nil r2064 <|
                                   some [.i (x2063)]))
                               (br (p_Head_Type == 5)
                                  (br (p_Head_Type == 5)
                                     (out (r18_if2 false 1 2) fun r2065 =>
                                      un_i r2065 fun x2066 r2067 =>
                                      un_nil r2067 <|
                                      some [.i (x2066)])
                                     (out (ref_Less p_Head_Seq x1805) fun r2068 =>
                                      un_b r2068 fun x2069 r2070 =>
                                      un_nil r2070 <|
                                      br (!x2069)
                                        (out (r18_if2 x1814 1 3) fun r2071 =>
                                         un_i r2071 fun x2072 r2073 =>
                                         un_nil r2073 <|
                                         some [.i (x2072)])
                                        (out (r18_if2 false 1 3) fun r2074 =>
                                         un_i r2074 fun x2075 r2076 =>
                                         un_nil r2076 <|
                                         some [.i (x2075)])))
                                  (br (p_Head_Type == 6)
                                     (br (p_Head_Type == 6)
                                        (out (r18_if2 false 1 2) fun r2077 =>
                                         un_i r2077 fun x2078 r2079 =>
                                         un_nil r2079 <|
                                         some [.i (x2078)])
                                        (out (ref_Less p_Head_Seq x1805) fun r2080 =>
                                         un_b r2080 fun x2081 r2082 =>
                                         un_nil r2082 <|
                                         br (!x2081)
                                           (out (r18_if2 x1814 1 3) fun r2083 =>
                                            un_i r2083 fun x2084 r2085 =>
                                            un_nil r2085 <|
                                            some [.i (x2084)])
                                           (out (r18_if2 false 1 3) fun r2086 =>
                                            un_i r2086 fun x2087 r2088 =>
                                            un_nil r2088 <|
                                            some [.i (x2087)])))
                                     (br (p_Head_Type == 7)
                                        (out (r18_if2 false 1 2) fun r2089 =>
                                         un_i r2089 fun x2090 r2091 =>
                                         un_nil r2091 <|
                                         some [.i (x2090)])
                                        (out (ref_Less p_Head_Seq x1805) fun r2092 =>
                                         un_b r2092 fun x2093 r2094 =>
                                         un_nil r2094 <|
                                         br (!x2093)
                                           (out (r18_if2 x1814 1 3) fun r2095 =>
                                            un_i r2095 fun x2096 r2097 =>
                                            un_nil r2097 <|
                                            some [.i (x2096)])
                                           (out (r18_if2 false 1 3) fun r2098 =>
                                            un_i r2098 fun x2099 r2100 =>
                                            un_nil r2100 <|
                                            some [.i (x2099)]))))))
                            (br (p_Head_Type == 4)
                               (br (x1817)
                                  (out (r18_if2 x1814 1 2) fun r2101 =>
                                   un_i r2101 fun x2102 r2103 =>
                                   un_nil r2103 <|
                                   some [.i (x2102)])
                                  (out (r18_if2 false 1 2) fun r2104 =>
                                   un_i r2104 fun x2105 r2106 =>
                                   un_nil r2106 <|
                                   some [.i (x2105)]))
                               (br (p_Head_Type == 5)
                                  (br (p_Head_Type == 5)
                                     (out (r18_if2 false 1 2) fun r2107 =>
                                      un_i r2107 fun x2108 r2109 =>
                                      un_nil r2109 <|
                                      some [.i (x2108)])
                                     (out (ref_Less p_Head_Seq x1805) fun r2110 =>
                                      un_b r2110 fun x2111 r2112 =>
                                      un_nil r2112 <|
                                      br (!x2111)
                                        (out (r18_if2 x1814 1 3) fun r2113 =>
                                         un_i r2113 fun x2114 r2115 =>
                                         un_nil r2115 <|
                                         some [.i (x2114)])
                                        (out (r18_if2 false 1 3) fun r2116 =>
                                         un_i r2116 fun x2117 r2118 =>
                                         un_nil r2118 <|
                                         some [.i (x2117)])))
                                  (br (p_Head_Type == 6)
                                     (br (p_Head_Type == 6)
                                        (out (r18_if2 false 1 2) fun r2119 =>
                                         un_i r2119 fun x2120 r2121 =>
                                         un_nil r2121 <|
                                         some [.i (x2120)])
                                        (out (ref_Less p_Head_Seq x1805) fun r2122 =>
                                         un_b r2122 fun x2123 r2124 =>
                                         un_nil r2124 <|
                                         br (!x2123)
                                           (out (r18_if2 x1814 1 3) fun r2125 =>
                                            un_i r2125 fun x2126 r2127 =>
                                            un_nil r2127 <|
                                            some [.i (x2126)])
                                           (out (r18_if2 false 1 3) fun r2128 =>
                                            un_i r2128 fun x2129 r2130 =>
                                            un_nil r2130 <|
                                            some [.i (x2129)])))
                                     (br (p_Head_Type == 7)
                                        (out (r18_if2 false 1 2) fun r2131 =>
                                         un_i r2131 fun x2132 r2133 =>
                                         un_nil r2133 <|
                                         some [.i (x2132)])
                                        (out (ref_Less p_Head_Seq x1805) fun r2134 =>
                                         un_b r2134 fun x2135 r2136 =>
                                         un_nil r2136 <|
                                         br (!x2135)
                                           (out (r18_if2 x1814 1 3) fun r2137 =>
                                            un_i r2137 fun x2138 r2139 =>
                                            un_nil r2139 <|
                                            some [.i (x2138)])
                                           (out (r18_if2 false 1 3) fun r2140 =>
                                            un_i r2140 fun x2141 r2142 =>
                                            un_nil r2142 <|
                                            some [.i (x2141)])))))))))))))
       (br (v_State == 8)
          (some [.i (3)])
          (br (v_State == 1)
             (out (r18_if2 (p_Head_Type == 0) 1 3) fun r2143 =>
              un_i r2143 fun x2144 r2145 =>
              un_nil r2145 <|
              some [.i (x2144)])
             (br (v_State == 2)
                (br (p_Head_Type == 1)
                   (out (r18_if2 x1814 1 3) fun r2146 =>
                    un_i r2146 fun x2147 r2148 =>
                    un_nil r2148 <|
                    some [.i (x2147)])
                   (br (p_Head_Type == 7)
                      (out (r18_if2 x1814 1 3) fun r2149 =>
                       un_i r2149 fun x2150 r2151 =>
                       un_nil r2151 <|
                       some [.i (x2150)])
                      (out (r18_if2 false 1 3) fun r2152 =>
                       un_i r2152 fun x2153 r2154 =>
                       un_nil r2154 <|
                       some [.i (x2153)])))
                (br (p_Head_Type == 0)
                   (br (v_State == 3)
                      (out (r18_if2 x1817 1 2) fun r2155 =>
                       un_i r2155 fun x2156 r2157 =>
                       un_nil r2157 <|
                       some [.i (x2156)])
                      (out (r18_if2 false 1 2) fun r2158 =>
                       un_i r2158 fun x2159 r2160 =>
                       un_nil r2160 <|
                       some [.i (x2159)]))
                   (br (p_Head_Type == 1)
                      (some [.i (2)])
                      (br (p_Head_Type == 2)
                         (out (r18_if2 x1817 1 2) fun r2161 =>
                          un_i r2161 fun x2162 r2163 =>
                          un_nil r2163 <|
                          some [.i (x2162)])
                         (br (p_Head_Type == 3)
                            (br (p_Head_Type == 3)
                               (br (x1817)
                                  (out (r18_if2 x1814 1 2) fun r2164 =>
                                   un_i r2164 fun x2165 r2166 =>
                                   un_nil r2166 <|
                                   some [.i (x2165)])
                                  (out (r18_if2 false 1 2) fun r2167 =>
                                   un_i r2167 fun x2168 r2169 =>
                                   un_nil r2169 <|
                                   some [.i (x2168)]))
                               (br (p_Head_Type == 5)
                                  (br (p_Head_Type == 5)
                                     (out (r18_if2 false 1 2) fun r2170 =>
                                      un_i r2170 fun x2171 r2172 =>
                                      un_nil r2172 <|
                                      some [.i (x2171)])
                                     (out (ref_Less p_Head_Seq x1805) fun r2173 =>
                                      un_b r2173 fun x2174 r2175 =>
                                      un_nil r2175 <|
                                      br (!x2174)
                                        (out (r18_if2 x1814 1 3) fun r2176 =>
                                         un_i r2176 fun x2177 r2178 =>
                                         un_nil r2178 <|
                                         some [.i (x2177)])
                                        (out (r18_if2 false 1 3) fun r2179 =>
                                         un_i r2179 fun x2180 r2181 =>
                                         un_nil r2181 <|
                                         some [.i (x2180)])))
                                  (br (p_Head_Type == 6)
                                     (br (p_Head_Type == 6)
                                        (out (r18_if2 false 1 2) fun r2182 =>
                                         un_i r2182 fun x2183 r2184 =>
                                         un_nil r2184 <|
                                         some [.i (x2183)])
                                        (out (ref_Less p_Head_Seq x1805) fun r2185 =>
                                         un_b r2185 fun x2186 r2187 =>
                                         un_nil r2187 <|
                                         br (!x2186)
                                           (out (r18_if2 x1814 1 3) fun r2188 =>
                                            un_i r2188 fun x2189 r2190 =>
                                            un_nil r2190 <|
                                            some [.i (x2189)])
                                           (out (r18_if2 false 1 3) fun r2191 =>
                                            un_i r2191 fun x2192 r2193 =>
                                            un_nil r2193 <|
                                            some [.i (x2192)])))
                                     (br (p_Head_Type == 7)
                                        (out (r18_if2 false 1 2) fun r2194 =>
                                         un_i r2194 fun x2195 r2196 =>
                                         un_nil r2196 <|
                                         some [.i (x2195)])
                                        (out (ref_Less p_Head_Seq x1805) fun r2197 =>
                                         un_b r2197 fun x2198 r2199 =>
                                         un_nil r2199 <|
                                         br (!x2198)
                                           (out (r18_if2 x1814 1 3) fun r2200 =>
                                            un_i r2200 fun x2201 r2202 =>
                                            un_nil r2202 <|
                                            some [.i (x2201)])
                                           (out (r18_if2 false 1 3) fun r2203 =>
                                            un_i r2203 fun x2204 r2205 =>
                                            un_nil r2205 <|
                                            some [.i (x2204)]))))))
                            (br (p_Head_Type == 4)
                               (br (x1817)
                                  (out (r18_if2 x1814 1 2) fun r2206 =>
                                   un_i r2206 fun x2207 r2208 =>
                                   un_nil r2208 <|
                                   some [.i (x2207)])
                                  (out (r18_if2 false 1 2) fun r2209 =>
                                   un_i r2209 fun x2210 r2211 =>
                                   un_nil r2211 <|
                                   some [.i (x2210)]))
                               (br (p_Head_Type == 5)
                                  (br (p_Head_Type == 5)
                                     (out (r18_if2 false 1 2) fun r2212 =>
                                      un_i r2212 fun x2213 r2214 =>
                                      un_nil r2214 <|
                                      some [.i (x2213)])
                                     (out (ref_Less p_Head_Seq x1805) fun r2215 =>
                                      un_b r2215 fun x2216 r2217 =>
                                      un_nil r2217 <|
                                      br (!x2216)
                                        (out (r18_if2 x1814 1 3) fun r2218 =>
                                         un_i r2218 fun x2219 r2220 =>
                                         un_nil r2220 <|
                                         some [.i (x2219)])
                                        (out (r18_if2 false 1 3) fun r2221 =>
                                         un_i r2221 fun x2222 r2223 =>
                                         un_nil r2223 <|
                                         some [.i (x2222)])))
                                  (br (p_Head_Type == 6)
                                     (br (p_Head_Type == 6)
                                        (out (r18_if2 false 1 2) fun r2224 =>
                                         un_i r2224 fun x2225 r2226 =>
                                         un_nil r2226 <|
                                         some [.i (x2225)])
                                        (out (ref_Less p_Head_Seq x1805) fun r2227 =>
                                         un_b r2227 fun x2228 r2229 =>
                                         un_nil r2229 <|
                                         br (!x2228)
                                           (out (r18_if2 x1814 1 3) fun r2230 =>
                                            un_i r2230 fun x2231 r2232 =>
                                            un_nil r2232 <|
                                            some [.i (x2231)])
                                           (out (r18_if2 false 1 3) fun r2233 =>
                                            un_i r2233 fun x2234 r2235 =>
                                            un_nil r2235 <|
                                            some [.i (x2234)])))
                                     (br (p_Head_Type == 7)
                                        (out (r18_if2 false 1 2) fun r2236 =>
                                         un_i r2236 fun x2237 r2238 =>
                                         un_nil r2238 <|
                                         some [.i (x2237)])
                                        (out (ref_Less p_Head_Seq x1805) fun r2239 =>
                                         un_b r2239 fun x2240 r2241 =>
                                         un_nil r2241 <|
                                         br (!x2240)
                                           (out (r18_if2 x1814 1 3) fun r2242 =>
                                            un_i r2242 fun x2243 r2244 =>
                                            un_nil r2244 <|
                                            some [.i (x2243)])
                                           (out (r18_if2 false 1 3) fun r2245 =>
                                            un_i r2245 fun x2246 r2247 =>
                                            un_nil r2247 <|
                                            some [.i (x2246)]))))))))))))))
end Go.Sx.T

