import Derived.Test.YtngjglbakgdgaaaGreatDoorYnCtlSpec
set_option linter.all false
namespace Go.Sx.T
open Go Go.Sx
def CtrlNoLoss_11111_B  {α : Type} (kx : Nat → List Leaf → Option α) (kr : List Leaf → Option α) (again : Int → Int → Int → Int → Int → Bool → Int → Bool → Bool → Int → Bool → Int → Int → Int → Int → Int → Int → Int → Int → Int → Option α) (c_w_cwnd : Int) (c_w_slow : Int) (c_w_pipe : Int) (c_w_count : Int) (c_w_halved_n : Int) (c_w_halved_is : Bool) (c_w_last_n : Int) (c_w_last_is : Bool) (c_w_runs : Bool) (c_w_due : Int) (c_w_rtt_any : Bool) (c_w_rtt_smooth : Int) (c_w_rtt_spread : Int) (c_w_rtt_rto : Int) (i : Int) (cwnd : Int) (rate : Int) (r : Int) (now : Int) (n2 : Int) : Option α :=
  one (remI .i64 n2 20) fun x1763 =>
  one (addI .i64 x1763 20) fun x1764 =>
  one (remI .i64 x1764 20) fun x1765 =>
  one (addI .i64 2 x1765) fun x1766 =>
  br (decide (i < x1766))
    (one (wrapI .u64 i) fun x1767 =>
     out (cw_Sent c_w_cwnd c_w_slow c_w_pipe c_w_count c_w_halved_n c_w_halved_is c_w_last_n c_w_last_is c_w_runs c_w_due c_w_rtt_any c_w_rtt_smooth c_w_rtt_spread c_w_rtt_rto now x1767 0) fun r1768 =>
     un_i r1768 fun x1769 r1770 =>
     un_i r1770 fun x1771 r1772 =>
     un_i r1772 fun x1773 r1774 =>
     un_i r1774 fun x1775 r1776 =>
     un_i r1776 fun x1777 r1778 =>
     un_b r1778 fun x1779 r1780 =>
     un_i r1780 fun x1781 r1782 =>
     un_b r1782 fun x1783 r1784 =>
     un_b r1784 fun x1785 r1786 =>
     un_i r1786 fun x1787 r1788 =>
     un_b r1788 fun x1789 r1790 =>
     un_i r1790 fun x1791 r1792 =>
     un_i r1792 fun x1793 r1794 =>
     un_i r1794 fun x1795 r1796 =>
     un_b r1796 fun x1797 r1798 =>
     un_nil r1798 <|
     one (addI .i64 r 1) fun x1799 =>
     one (addI .i64 now x1799) fun x1800 =>
     one (wrapI .u64 i) fun x1801 =>
     one ((↑1 : Int)) fun x1802 =>
     one (subI .i64 x1773 x1802) fun x1803 =>
     one (0) fun x2049 =>
     one (subI .i64 x1803 0) fun x1804 =>
     one (maxI x1804 0) fun x1805 =>
     br (decide (r ≥ 0))
       (out (rtt_Sample x1789 x1791 x1793 x1795 r) fun r1806 =>
        un_b r1806 fun x1807 r1808 =>
        un_i r1808 fun x1809 r1810 =>
        un_i r1810 fun x1811 r1812 =>
        un_i r1812 fun x1813 r1814 =>
        un_nil r1814 <|
        one ((↑1 : Int)) fun x1815 =>
        br (decide (x1815 > 0))
          (one ((↑1 : Int)) fun x1816 =>
           out (win_grow x1769 x1771 x1805 x1775 x1777 x1779 x1781 x1783 x1785 x1787 x1807 x1809 x1811 x1813 x1816) fun r1817 =>
           un_i r1817 fun x1818 r1819 =>
           un_i r1819 fun x1820 r1821 =>
           un_i r1821 fun x1822 r1823 =>
           un_i r1823 fun x1824 r1825 =>
           un_i r1825 fun x1826 r1827 =>
           un_b r1827 fun x1828 r1829 =>
           un_i r1829 fun x1830 r1831 =>
           un_b r1831 fun x1832 r1833 =>
           un_b r1833 fun x1834 r1835 =>
           un_i r1835 fun x1836 r1837 =>
           un_b r1837 fun x1838 r1839 =>
           un_i r1839 fun x1840 r1841 =>
           un_i r1841 fun x1842 r1843 =>
           un_i r1843 fun x1844 r1845 =>
           un_nil r1845 <|
           br (decide (x1822 > 0))
             (out (win_runsTo x1818 x1820 x1822 x1824 x1826 x1828 x1830 x1832 false x1836 x1838 x1840 x1842 x1844 x1800) fun r1846 =>
              un_i r1846 fun x1847 r1848 =>
              un_i r1848 fun x1849 r1850 =>
              un_i r1850 fun x1851 r1852 =>
              un_i r1852 fun x1853 r1854 =>
              un_i r1854 fun x1855 r1856 =>
              un_b r1856 fun x1857 r1858 =>
              un_i r1858 fun x1859 r1860 =>
              un_b r1860 fun x1861 r1862 =>
              un_b r1862 fun x1863 r1864 =>
              un_i r1864 fun x1865 r1866 =>
              un_b r1866 fun x1867 r1868 =>
              un_i r1868 fun x1869 r1870 =>
              un_i r1870 fun x1871 r1872 =>
              un_i r1872 fun x1873 r1874 =>
              un_nil r1874 <|
              out (win_Cwnd x1847 x1849 x1851 x1853 x1855 x1857 x1859 x1861 x1863 x1865 x1867 x1869 x1871 x1873) fun r1875 =>
              un_i r1875 fun x1876 r1877 =>
              un_nil r1877 <|
              br (decide (x1876 ≤ cwnd))
                (kr [.b (false)])
                (out (win_Cwnd x1847 x1849 x1851 x1853 x1855 x1857 x1859 x1861 x1863 x1865 x1867 x1869 x1871 x1873) fun r1878 =>
                 un_i r1878 fun x1879 r1880 =>
                 un_nil r1880 <|
                 one (addI .i64 i 1) fun x1881 =>
                 again (x1847) (x1849) (x1851) (x1853) (x1855) (x1857) (x1859) (x1861) (x1863) (x1865) (x1867) (x1869) (x1871) (x1873) (x1881) (x1879) (rate) (r) (x1800) (n2)))
             (out (win_Cwnd x1818 x1820 x1822 x1824 x1826 x1828 x1830 x1832 false x1836 x1838 x1840 x1842 x1844) fun r1882 =>
              un_i r1882 fun x1883 r1884 =>
              un_nil r1884 <|
              br (decide (x1883 ≤ cwnd))
                (kr [.b (false)])
                (out (win_Cwnd x1818 x1820 x1822 x1824 x1826 x1828 x1830 x1832 false x1836 x1838 x1840 x1842 x1844) fun r1885 =>
                 un_i r1885 fun x1886 r1887 =>
                 un_nil r1887 <|
                 one (addI .i64 i 1) fun x1888 =>
                 again (x1818) (x1820) (x1822) (x1824) (x1826) (x1828) (x1830) (x1832) (false) (x1836) (x1838) (x1840) (x1842) (x1844) (x1888) (x1886) (rate) (r) (x1800) (n2))))
          (br (decide (x1805 > 0))
             (out (win_runsTo x1769 x1771 x1805 x1775 x1777 x1779 x1781 x1783 false x1787 x1807 x1809 x1811 x1813 x1800) fun r1889 =>
              un_i r1889 fun x1890 r1891 =>
              un_i r1891 fun x1892 r1893 =>
              un_i r1893 fun x1894 r1895 =>
              un_i r1895 fun x1896 r1897 =>
              un_i r1897 fun x1898 r1899 =>
              un_b r1899 fun x1900 r1901 =>
              un_i r1901 fun x1902 r1903 =>
              un_b r1903 fun x1904 r1905 =>
              un_b r1905 fun x1906 r1907 =>
              un_i r1907 fun x1908 r1909 =>
              un_b r1909 fun x1910 r1911 =>
              un_i r1911 fun x1912 r1913 =>
              un_i r1913 fun x1914 r1915 =>
              un_i r1915 fun x1916 r1917 =>
              un_nil r1917 <|
              out (win_Cwnd x1890 x1892 x1894 x1896 x1898 x1900 x1902 x1904 x1906 x1908 x1910 x1912 x1914 x1916) fun r1918 =>
              un_i r1918 fun x1919 r1920 =>
              un_nil r1920 <|
              br (decide (x1919 ≤ cwnd))
                (kr [.b (false)])
                (out (win_Cwnd x1890 x1892 x1894 x1896 x1898 x1900 x1902 x1904 x1906 x1908 x1910 x1912 x1914 x1916) fun r1921 =>
                 un_i r1921 fun x1922 r1923 =>
                 un_nil r1923 <|
                 one (addI .i64 i 1) fun x1924 =>
                 again (x1890) (x1892) (x1894) (x1896) (x1898) (x1900) (x1902) (x1904) (x1906) (x1908) (x1910) (x1912) (x1914) (x1916) (x1924) (x1922) (rate) (r) (x1800) (n2)))
             (out (win_Cwnd x1769 x1771 x1805 x1775 x1777 x1779 x1781 x1783 false x1787 x1807 x1809 x1811 x1813) fun r1925 =>
              un_i r1925 fun x1926 r1927 =>
              un_nil r1927 <|
              br (decide (x1926 ≤ cwnd))
                (kr [.b (false)])
                (out (win_Cwnd x1769 x1771 x1805 x1775 x1777 x1779 x1781 x1783 false x1787 x1807 x1809 x1811 x1813) fun r1928 =>
                 un_i r1928 fun x1929 r1930 =>
                 un_nil r1930 <|
                 one (addI .i64 i 1) fun x1931 =>
                 again (x1769) (x1771) (x1805) (x1775) (x1777) (x1779) (x1781) (x1783) (false) (x1787) (x1807) (x1809) (x1811) (x1813) (x1931) (x1929) (rate) (r) (x1800) (n2)))))
       (one ((↑1 : Int)) fun x1932 =>
        br (decide (x1932 > 0))
          (one ((↑1 : Int)) fun x1933 =>
           out (win_grow x1769 x1771 x1805 x1775 x1777 x1779 x1781 x1783 x1785 x1787 x1789 x1791 x1793 x1795 x1933) fun r1934 =>
           un_i r1934 fun x1935 r1936 =>
           un_i r1936 fun x1937 r1938 =>
           un_i r1938 fun x1939 r1940 =>
           un_i r1940 fun x1941 r1942 =>
           un_i r1942 fun x1943 r1944 =>
           un_b r1944 fun x1945 r1946 =>
           un_i r1946 fun x1947 r1948 =>
           un_b r1948 fun x1949 r1950 =>
           un_b r1950 fun x1951 r1952 =>
           un_i r1952 fun x1953 r1954 =>
           un_b r1954 fun x1955 r1956 =>
           un_i r1956 fun x1957 r1958 =>
           un_i r1958 fun x1959 r1960 =>
           un_i r1960 fun x1961 r1962 =>
           un_nil r1962 <|
           br (decide (x1939 > 0))
             (out (win_runsTo x1935 x1937 x1939 x1941 x1943 x1945 x1947 x1949 false x1953 x1955 x1957 x1959 x1961 x1800) fun r1963 =>
              un_i r1963 fun x1964 r1965 =>
              un_i r1965 fun x1966 r1967 =>
              un_i r1967 fun x1968 r1969 =>
              un_i r1969 fun x1970 r1971 =>
              un_i r1971 fun x1972 r1973 =>
              un_b r1973 fun x1974 r1975 =>
              un_i r1975 fun x1976 r1977 =>
              un_b r1977 fun x1978 r1979 =>
              un_b r1979 fun x1980 r1981 =>
              un_i r1981 fun x1982 r1983 =>
              un_b r1983 fun x1984 r1985 =>
              un_i r1985 fun x1986 r1987 =>
              un_i r1987 fun x1988 r1989 =>
              un_i r1989 fun x1990 r1991 =>
              un_nil r1991 <|
              out (win_Cwnd x1964 x1966 x1968 x1970 x1972 x1974 x1976 x1978 x1980 x1982 x1984 x1986 x1988 x1990) fun r1992 =>
              un_i r1992 fun x1993 r1994 =>
              un_nil r1994 <|
              br (decide (x1993 ≤ cwnd))
                (kr [.b (false)])
                (out (win_Cwnd x1964 x1966 x1968 x1970 x1972 x1974 x1976 x1978 x1980 x1982 x1984 x1986 x1988 x1990) fun r1995 =>
                 un_i r1995 fun x1996 r1997 =>
                 un_nil r1997 <|
                 one (addI .i64 i 1) fun x1998 =>
                 again (x1964) (x1966) (x1968) (x1970) (x1972) (x1974) (x1976) (x1978) (x1980) (x1982) (x1984) (x1986) (x1988) (x1990) (x1998) (x1996) (rate) (r) (x1800) (n2)))
             (out (win_Cwnd x1935 x1937 x1939 x1941 x1943 x1945 x1947 x1949 false x1953 x1955 x1957 x1959 x1961) fun r1999 =>
              un_i r1999 fun x2000 r2001 =>
              un_nil r2001 <|
              br (decide (x2000 ≤ cwnd))
                (kr [.b (false)])
                (out (win_Cwnd x1935 x1937 x1939 x1941 x1943 x1945 x1947 x1949 false x1953 x1955 x1957 x1959 x1961) fun r2002 =>
                 un_i r2002 fun x2003 r2004 =>
                 un_nil r2004 <|
                 one (addI .i64 i 1) fun x2005 =>
                 again (x1935) (x1937) (x1939) (x1941) (x1943) (x1945) (x1947) (x1949) (false) (x1953) (x1955) (x1957) (x1959) (x1961) (x2005) (x2003) (rate) (r) (x1800) (n2))))
          (br (decide (x1805 > 0))
             (out (win_runsTo x1769 x1771 x1805 x1775 x1777 x1779 x1781 x1783 false x1787 x1789 x1791 x1793 x1795 x1800) fun r2006 =>
              un_i r2006 fun x2007 r2008 =>
              un_i r2008 fun x2009 r2010 =>
              un_i r2010 fun x2011 r2012 =>
              un_i r2012 fun x2013 r2014 =>
              un_i r2014 fun x2015 r2016 =>
              un_b r2016 fun x2017 r2018 =>
              un_i r2018 fun x2019 r2020 =>
              un_b r2020 fun x2021 r2022 =>
              un_b r2022 fun x2023 r2024 =>
              un_i r2024 fun x2025 r2026 =>
              un_b r2026 fun x2027 r2028 =>
              un_i r2028 fun x2029 r2030 =>
              un_i r2030 fun x2031 r2032 =>
              un_i r2032 fun x2033 r2034 =>
              un_nil r2034 <|
              out (win_Cwnd x2007 x2009 x2011 x2013 x2015 x2017 x2019 x2021 x2023 x2025 x2027 x2029 x2031 x2033) fun r2035 =>
              un_i r2035 fun x2036 r2037 =>
              un_nil r2037 <|
              br (decide (x2036 ≤ cwnd))
                (kr [.b (false)])
                (out (win_Cwnd x2007 x2009 x2011 x2013 x2015 x2017 x2019 x2021 x2023 x2025 x2027 x2029 x2031 x2033) fun r2038 =>
                 un_i r2038 fun x2039 r2040 =>
                 un_nil r2040 <|
                 one (addI .i64 i 1) fun x2041 =>
                 again (x2007) (x2009) (x2011) (x2013) (x2015) (x2017) (x2019) (x2021) (x2023) (x2025) (x2027) (x2029) (x2031) (x2033) (x2041) (x2039) (rate) (r) (x1800) (n2)))
             (out (win_Cwnd x1769 x1771 x1805 x1775 x1777 x1779 x1781 x1783 false x1787 x1789 x1791 x1793 x1795) fun r2042 =>
              un_i r2042 fun x2043 r2044 =>
              un_nil r2044 <|
              br (decide (x2043 ≤ cwnd))
                (kr [.b (false)])
                (out (win_Cwnd x1769 x1771 x1805 x1775 x1777 x1779 x1781 x1783 false x1787 x1789 x1791 x1793 x1795) fun r2045 =>
                 un_i r2045 fun x2046 r2047 =>
                 un_nil r2047 <|
                 one (addI .i64 i 1) fun x2048 =>
                 again (x1769) (x1771) (x1805) (x1775) (x1777) (x1779) (x1781) (x1783) (false) (x1787) (x1789) (x1791) (x1793) (x1795) (x2048) (x2046) (rate) (r) (x1800) (n2))))))
    (kx 0 [])
def CtrlNoLoss_11111_L {α : Type} (kx : Nat → List Leaf → Option α) (kr : List Leaf → Option α) : Nat → Int → Int → Int → Int → Int → Bool → Int → Bool → Bool → Int → Bool → Int → Int → Int → Int → Int → Int → Int → Int → Int → Option α
  | 0, _, _, _, _, _, _, _, _, _, _, _, _, _, _, _, _, _, _, _, _ => none
  | n + 1, c_w_cwnd, c_w_slow, c_w_pipe, c_w_count, c_w_halved_n, c_w_halved_is, c_w_last_n, c_w_last_is, c_w_runs, c_w_due, c_w_rtt_any, c_w_rtt_smooth, c_w_rtt_spread, c_w_rtt_rto, i, cwnd, rate, r, now, n2 => CtrlNoLoss_11111_B  kx kr (CtrlNoLoss_11111_L kx kr n) c_w_cwnd c_w_slow c_w_pipe c_w_count c_w_halved_n c_w_halved_is c_w_last_n c_w_last_is c_w_runs c_w_due c_w_rtt_any c_w_rtt_smooth c_w_rtt_spread c_w_rtt_rto i cwnd rate r now n2
def CtrlNoLoss_11111_F (L11111 : ({β : Type} → (Nat → List Leaf → Option β) → (List Leaf → Option β) → Nat → Int → Int → Int → Int → Int → Bool → Int → Bool → Bool → Int → Bool → Int → Int → Int → Int → Int → Int → Int → Int → Int → Option β)) {α : Type} (n : Nat) (ls : List Leaf) (kx : Nat → List Leaf → Option α) (kr : List Leaf → Option α) : Option α := un_i ls fun c_w_cwnd rr => un_i rr fun c_w_slow rr => un_i rr fun c_w_pipe rr => un_i rr fun c_w_count rr => un_i rr fun c_w_halved_n rr => un_b rr fun c_w_halved_is rr => un_i rr fun c_w_last_n rr => un_b rr fun c_w_last_is rr => un_b rr fun c_w_runs rr => un_i rr fun c_w_due rr => un_b rr fun c_w_rtt_any rr => un_i rr fun c_w_rtt_smooth rr => un_i rr fun c_w_rtt_spread rr => un_i rr fun c_w_rtt_rto rr => un_i rr fun i rr => un_i rr fun cwnd rr => un_i rr fun rate rr => un_i rr fun r rr => un_i rr fun now rr => un_i rr fun n2 rr => un_nil rr (L11111 kx kr n c_w_cwnd c_w_slow c_w_pipe c_w_count c_w_halved_n c_w_halved_is c_w_last_n c_w_last_is c_w_runs c_w_due c_w_rtt_any c_w_rtt_smooth c_w_rtt_spread c_w_rtt_rto i cwnd rate r now n2)
def CtrlNoLoss_11115_B  {α : Type} (kx : Nat → List Leaf → Option α) (kr : List Leaf → Option α) (again : List Int → List Int → Int → Int → Int → Int → Int → Bool → Int → Bool → Bool → Int → Int → Int → Int → Int → Int → Int → Int → Int → Int → Int → Int → Option α) (c_t_set_l0 : List Int) (c_t_set_l1 : List Int) (c_last : Int) (c_t_s : Int) (c_t_x : Int) (c_t_loss : Int) (c_t_rtt : Int) (c_t_heard : Bool) (c_t_doubled : Int) (c_t_began : Bool) (c_t_started : Bool) (c_t_due : Int) (c_p_s : Int) (c_p_tick : Int) (c_p_has : Int) (c_p_rate : Int) (c_p_now : Int) (i : Int) (cwnd : Int) (rate : Int) (r : Int) (now : Int) (n2 : Int) : Option α :=
  one (remI .i64 n2 20) fun x2211 =>
  one (addI .i64 x2211 20) fun x2212 =>
  one (remI .i64 x2212 20) fun x2213 =>
  one (addI .i64 2 x2213) fun x2214 =>
  br (decide (i < x2214))
    (one (wrapI .u64 i) fun x2215 =>
     chk (decide (Int.ofNat (List.length c_t_set_l0) = Int.ofNat (List.length c_t_set_l0)) && true && true) <|
     out (cr_Sent c_t_set_l0 c_t_set_l1 c_last c_t_s c_t_x c_t_loss c_t_rtt c_t_heard c_t_doubled c_t_began c_t_started c_t_due c_p_s c_p_tick c_p_has c_p_rate c_p_now now x2215 0) fun r2216 =>
     un_li r2216 fun x2217 r2218 =>
     un_li r2218 fun x2219 r2220 =>
     un_i r2220 fun x2221 r2222 =>
     un_i r2222 fun x2223 r2224 =>
     un_i r2224 fun x2225 r2226 =>
     un_i r2226 fun x2227 r2228 =>
     un_i r2228 fun x2229 r2230 =>
     un_b r2230 fun x2231 r2232 =>
     un_i r2232 fun x2233 r2234 =>
     un_b r2234 fun x2235 r2236 =>
     un_b r2236 fun x2237 r2238 =>
     un_i r2238 fun x2239 r2240 =>
     un_i r2240 fun x2241 r2242 =>
     un_i r2242 fun x2243 r2244 =>
     un_i r2244 fun x2245 r2246 =>
     un_i r2246 fun x2247 r2248 =>
     un_i r2248 fun x2249 r2250 =>
     un_b r2250 fun x2251 r2252 =>
     un_nil r2252 <|
     one (addI .i64 r 1) fun x2253 =>
     one (addI .i64 now x2253) fun x2254 =>
     one (wrapI .u64 i) fun x2255 =>
     chk (decide (Int.ofNat (List.length x2217) = Int.ofNat (List.length x2217)) && true && true) <|
     chk (decide ((↑(1 : Nat) : Int) = Int.ofNat (List.length [x2255])) && (decide ((0 : Int) = Int.ofNat (0 : Nat)) && (decide ((0 : Int) = Int.ofNat (0 : Nat)) && true)) && true) <|
     out (cr_Hear x2217 x2219 [x2255] [] [] x2221 x2223 x2225 x2227 x2229 x2231 x2233 x2235 x2237 x2239 x2241 x2243 x2245 x2247 x2249 x2254 (0 : Int) r (1099511627776 : Int) (0 : Int)) fun r2256 =>
     un_li r2256 fun x2257 r2258 =>
     un_li r2258 fun x2259 r2260 =>
     un_i r2260 fun x2261 r2262 =>
     un_i r2262 fun x2263 r2264 =>
     un_i r2264 fun x2265 r2266 =>
     un_i r2266 fun x2267 r2268 =>
     un_i r2268 fun x2269 r2270 =>
     un_b r2270 fun x2271 r2272 =>
     un_i r2272 fun x2273 r2274 =>
     un_b r2274 fun x2275 r2276 =>
     un_b r2276 fun x2277 r2278 =>
     un_i r2278 fun x2279 r2280 =>
     un_i r2280 fun x2281 r2282 =>
     un_i r2282 fun x2283 r2284 =>
     un_i r2284 fun x2285 r2286 =>
     un_i r2286 fun x2287 r2288 =>
     un_i r2288 fun x2289 r2290 =>
     un_nil r2290 <|
     chk (decide (Int.ofNat (List.length x2257) = Int.ofNat (List.length x2257)) && true && true) <|
     out (tfrc_Rate x2257 x2259 x2263 x2265 x2267 x2269 x2271 x2273 x2275 x2277 x2279) fun r2291 =>
     un_i r2291 fun x2292 r2293 =>
     un_nil r2293 <|
     br (decide (x2292 < rate))
       (kr [.b (false)])
       (one (addI .i64 i 1) fun x2294 =>
        chk (decide (Int.ofNat (List.length x2257) = Int.ofNat (List.length x2257)) && true && true) <|
        again (x2257) (x2259) (x2261) (x2263) (x2265) (x2267) (x2269) (x2271) (x2273) (x2275) (x2277) (x2279) (x2281) (x2283) (x2285) (x2287) (x2289) (x2294) (cwnd) (x2292) (r) (x2254) (n2)))
    (kx 0 [])
def CtrlNoLoss_11115_L {α : Type} (kx : Nat → List Leaf → Option α) (kr : List Leaf → Option α) : Nat → List Int → List Int → Int → Int → Int → Int → Int → Bool → Int → Bool → Bool → Int → Int → Int → Int → Int → Int → Int → Int → Int → Int → Int → Int → Option α
  | 0, _, _, _, _, _, _, _, _, _, _, _, _, _, _, _, _, _, _, _, _, _, _, _ => none
  | n + 1, c_t_set_l0, c_t_set_l1, c_last, c_t_s, c_t_x, c_t_loss, c_t_rtt, c_t_heard, c_t_doubled, c_t_began, c_t_started, c_t_due, c_p_s, c_p_tick, c_p_has, c_p_rate, c_p_now, i, cwnd, rate, r, now, n2 => CtrlNoLoss_11115_B  kx kr (CtrlNoLoss_11115_L kx kr n) c_t_set_l0 c_t_set_l1 c_last c_t_s c_t_x c_t_loss c_t_rtt c_t_heard c_t_doubled c_t_began c_t_started c_t_due c_p_s c_p_tick c_p_has c_p_rate c_p_now i cwnd rate r now n2
def CtrlNoLoss_11115_F (L11115 : ({β : Type} → (Nat → List Leaf → Option β) → (List Leaf → Option β) → Nat → List Int → List Int → Int → Int → Int → Int → Int → Bool → Int → Bool → Bool → Int → Int → Int → Int → Int → Int → Int → Int → Int → Int → Int → Int → Option β)) {α : Type} (n : Nat) (ls : List Leaf) (kx : Nat → List Leaf → Option α) (kr : List Leaf → Option α) : Option α := un_li ls fun c_t_set_l0 rr => un_li rr fun c_t_set_l1 rr => un_i rr fun c_last rr => un_i rr fun c_t_s rr => un_i rr fun c_t_x rr => un_i rr fun c_t_loss rr => un_i rr fun c_t_rtt rr => un_b rr fun c_t_heard rr => un_i rr fun c_t_doubled rr => un_b rr fun c_t_began rr => un_b rr fun c_t_started rr => un_i rr fun c_t_due rr => un_i rr fun c_p_s rr => un_i rr fun c_p_tick rr => un_i rr fun c_p_has rr => un_i rr fun c_p_rate rr => un_i rr fun c_p_now rr => un_i rr fun i rr => un_i rr fun cwnd rr => un_i rr fun rate rr => un_i rr fun r rr => un_i rr fun now rr => un_i rr fun n2 rr => un_nil rr (L11115 kx kr n c_t_set_l0 c_t_set_l1 c_last c_t_s c_t_x c_t_loss c_t_rtt c_t_heard c_t_doubled c_t_began c_t_started c_t_due c_p_s c_p_tick c_p_has c_p_rate c_p_now i cwnd rate r now n2)
def CtrlNoLoss_d (L11111 : ({β : Type} → (Nat → List Leaf → Option β) → (List Leaf → Option β) → Nat → Int → Int → Int → Int → Int → Bool → Int → Bool → Bool → Int → Bool → Int → Int → Int → Int → Int → Int → Int → Int → Int → Option β)) (L11115 : ({β : Type} → (Nat → List Leaf → Option β) → (List Leaf → Option β) → Nat → List Int → List Int → Int → Int → Int → Int → Int → Bool → Int → Bool → Bool → Int → Int → Int → Int → Int → Int → Int → Int → Int → Int → Int → Int → Option β)) (kind : Int) (size : Int) (r : Int) (n2 : Int) : Option (List Leaf) :=
  one (andI .i64 kind 1) fun x2295 =>
  one (addI .i64 2 x2295) fun x2296 =>
  one (remI .i64 size 1400) fun x2297 =>
  one (addI .i64 x2297 1400) fun x2298 =>
  one (remI .i64 x2298 1400) fun x2299 =>
  one (addI .i64 1 x2299) fun x2300 =>
  one (minI r 1048576) fun x2301 =>
  one (maxI 0 x2301) fun x2302 =>
  one (addI .i64 1000 x2302) fun x2303 =>
  out (tfrc_New x2300) fun r2304 =>
  un_li r2304 fun x2305 r2306 =>
  un_li r2306 fun x2307 r2308 =>
  un_i r2308 fun x2309 r2310 =>
  un_i r2310 fun x2311 r2312 =>
  un_i r2312 fun x2313 r2314 =>
  un_i r2314 fun x2315 r2316 =>
  un_b r2316 fun x2317 r2318 =>
  un_i r2318 fun x2319 r2320 =>
  un_b r2320 fun x2321 r2322 =>
  un_b r2322 fun x2323 r2324 =>
  un_i r2324 fun x2325 r2326 =>
  un_nil r2326 <|
  br (x2296 == 2)
    (out (win_New) fun r2327 =>
     un_i r2327 fun x2328 r2329 =>
     un_i r2329 fun x2330 r2331 =>
     un_i r2331 fun x2332 r2333 =>
     un_i r2333 fun x2334 r2335 =>
     un_i r2335 fun x2336 r2337 =>
     un_b r2337 fun x2338 r2339 =>
     un_i r2339 fun x2340 r2341 =>
     un_b r2341 fun x2342 r2343 =>
     un_b r2343 fun x2344 r2345 =>
     un_i r2345 fun x2346 r2347 =>
     un_b r2347 fun x2348 r2349 =>
     un_i r2349 fun x2350 r2351 =>
     un_i r2351 fun x2352 r2353 =>
     un_i r2353 fun x2354 r2355 =>
     un_nil r2355 <|
     L11111
       (fun i2356 r2357 =>
        br (Nat.beq 0 i2356)
          (un_nil r2357 <|
           some [.b (true)])
          (none))
       (fun r2358 =>
        un_b r2358 fun x2359 r2360 =>
        un_nil r2360 <|
        some [.b (x2359)])
       top (x2328) (x2330) (x2332) (x2334) (x2336) (x2338) (x2340) (x2342) (x2344) (x2346) (x2348) (x2350) (x2352) (x2354) (0) (0) (0) (x2303) (0) (n2))
    (br (x2296 == 3)
       (out (pace_New 1400 10000) fun r2361 =>
        un_i r2361 fun x2362 r2363 =>
        un_i r2363 fun x2364 r2365 =>
        un_i r2365 fun x2366 r2367 =>
        un_i r2367 fun x2368 r2369 =>
        un_i r2369 fun x2370 r2371 =>
        un_nil r2371 <|
        chk (decide (Int.ofNat (List.length x2305) = Int.ofNat (List.length x2305)) && true && true) <|
        L11115
          (fun i2372 r2373 =>
           br (Nat.beq 0 i2372)
             (un_nil r2373 <|
              some [.b (true)])
             (none))
          (fun r2374 =>
           un_b r2374 fun x2375 r2376 =>
           un_nil r2376 <|
           some [.b (x2375)])
          top (x2305) (x2307) (0) (x2309) (x2311) (x2313) (x2315) (x2317) (x2319) (x2321) (x2323) (x2325) (x2362) (x2364) (x2366) (x2368) (x2370) (0) (0) (0) (x2303) (0) (n2))
       (some [.b (false)]))
def CtrlNoLoss (kind : Int) (size : Int) (r : Int) (n2 : Int) : Option (List Leaf) := CtrlNoLoss_d @CtrlNoLoss_11111_L @CtrlNoLoss_11115_L kind size r n2
end Go.Sx.T

