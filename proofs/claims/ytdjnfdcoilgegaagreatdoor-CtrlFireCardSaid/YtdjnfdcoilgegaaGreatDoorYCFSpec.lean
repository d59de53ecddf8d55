import Derived.Test.YtdjnfdcoilgegaaGreatDoorYfCtlSpec
set_option linter.all false
namespace Go.Sx.T
open Go Go.Sx
set_option maxRecDepth 100000
def CtrlFire_13084_B  {α : Type} (kx : Nat → List Leaf → Option α) (kr : List Leaf → Option α) (again : Int → Int → Int → Int → Int → Bool → Int → Bool → Bool → Int → Bool → Int → Int → Int → Int → Int → Int → Int → Option α) (c_w_cwnd : Int) (c_w_slow : Int) (c_w_pipe : Int) (c_w_count : Int) (c_w_halved_n : Int) (c_w_halved_is : Bool) (c_w_last_n : Int) (c_w_last_is : Bool) (c_w_runs : Bool) (c_w_due : Int) (c_w_rtt_any : Bool) (c_w_rtt_smooth : Int) (c_w_rtt_spread : Int) (c_w_rtt_rto : Int) (i : Int) (now : Int) (n2 : Int) (size : Int) : Option α :=
  one (remI .i64 n2 6) fun x1202 =>
  one (addI .i64 x1202 6) fun x1203 =>
  one (remI .i64 x1203 6) fun x1204 =>
  br (decide (i ≤ x1204))
    (one (wrapI .u64 i) fun x1205 =>
     out (cw_Sent c_w_cwnd c_w_slow c_w_pipe c_w_count c_w_halved_n c_w_halved_is c_w_last_n c_w_last_is c_w_runs c_w_due c_w_rtt_any c_w_rtt_smooth c_w_rtt_spread c_w_rtt_rto now x1205 0) fun r1206 =>
     un_i r1206 fun x1207 r1208 =>
     un_i r1208 fun x1209 r1210 =>
     un_i r1210 fun x1211 r1212 =>
     un_i r1212 fun x1213 r1214 =>
     un_i r1214 fun x1215 r1216 =>
     un_b r1216 fun x1217 r1218 =>
     un_i r1218 fun x1219 r1220 =>
     un_b r1220 fun x1221 r1222 =>
     un_b r1222 fun x1223 r1224 =>
     un_i r1224 fun x1225 r1226 =>
     un_b r1226 fun x1227 r1228 =>
     un_i r1228 fun x1229 r1230 =>
     un_i r1230 fun x1231 r1232 =>
     un_i r1232 fun x1233 r1234 =>
     un_b r1234 fun x1235 r1236 =>
     un_nil r1236 <|
     out (cw_Due x1207 x1209 x1211 x1213 x1215 x1217 x1219 x1221 x1223 x1225 x1227 x1229 x1231 x1233) fun r1237 =>
     un_i r1237 fun x1238 r1239 =>
     un_i r1239 fun x1240 r1241 =>
     un_i r1241 fun x1242 r1243 =>
     un_i r1243 fun x1244 r1245 =>
     un_i r1245 fun x1246 r1247 =>
     un_b r1247 fun x1248 r1249 =>
     un_i r1249 fun x1250 r1251 =>
     un_b r1251 fun x1252 r1253 =>
     un_b r1253 fun x1254 r1255 =>
     un_i r1255 fun x1256 r1257 =>
     un_b r1257 fun x1258 r1259 =>
     un_i r1259 fun x1260 r1261 =>
     un_i r1261 fun x1262 r1263 =>
     un_i r1263 fun x1264 r1265 =>
     un_i r1265 fun x1266 r1267 =>
     un_b r1267 fun x1268 r1269 =>
     un_nil r1269 <|
     one (x1266) fun x1270 =>
     br (!x1268)
       (kr [.b (false)])
       (br (decide (x1270 ≤ now))
          (kr [.b (false)])
          (one (subI .i64 x1270 1) fun x1271 =>
           out (cw_Fire x1238 x1240 x1242 x1244 x1246 x1248 x1250 x1252 x1254 x1256 x1258 x1260 x1262 x1264 x1271) fun r1272 =>
           un_i r1272 fun x1273 r1274 =>
           un_i r1274 fun x1275 r1276 =>
           un_i r1276 fun x1277 r1278 =>
           un_i r1278 fun x1279 r1280 =>
           un_i r1280 fun x1281 r1282 =>
           un_b r1282 fun x1283 r1284 =>
           un_i r1284 fun x1285 r1286 =>
           un_b r1286 fun x1287 r1288 =>
           un_b r1288 fun x1289 r1290 =>
           un_i r1290 fun x1291 r1292 =>
           un_b r1292 fun x1293 r1294 =>
           un_i r1294 fun x1295 r1296 =>
           un_i r1296 fun x1297 r1298 =>
           un_i r1298 fun x1299 r1300 =>
           un_b r1300 fun x1301 r1302 =>
           un_nil r1302 <|
           br (x1301)
             (kr [.b (false)])
             (out (cw_Fire x1273 x1275 x1277 x1279 x1281 x1283 x1285 x1287 x1289 x1291 x1293 x1295 x1297 x1299 x1270) fun r1303 =>
              un_i r1303 fun x1304 r1305 =>
              un_i r1305 fun x1306 r1307 =>
              un_i r1307 fun x1308 r1309 =>
              un_i r1309 fun x1310 r1311 =>
              un_i r1311 fun x1312 r1313 =>
              un_b r1313 fun x1314 r1315 =>
              un_i r1315 fun x1316 r1317 =>
              un_b r1317 fun x1318 r1319 =>
              un_b r1319 fun x1320 r1321 =>
              un_i r1321 fun x1322 r1323 =>
              un_b r1323 fun x1324 r1325 =>
              un_i r1325 fun x1326 r1327 =>
              un_i r1327 fun x1328 r1329 =>
              un_i r1329 fun x1330 r1331 =>
              un_b r1331 fun x1332 r1333 =>
              un_nil r1333 <|
              br (!x1332)
                (kr [.b (false)])
                (one (addI .i64 i 1) fun x1334 =>
                 again (x1304) (x1306) (x1308) (x1310) (x1312) (x1314) (x1316) (x1318) (x1320) (x1322) (x1324) (x1326) (x1328) (x1330) (x1334) (x1270) (n2) (size))))))
    (kx 0 [.i (c_w_cwnd), .i (c_w_slow), .i (c_w_pipe), .i (c_w_count), .i (c_w_halved_n), .b (c_w_halved_is), .i (c_w_last_n), .b (c_w_last_is), .b (c_w_runs), .i (c_w_due), .b (c_w_rtt_any), .i (c_w_rtt_smooth), .i (c_w_rtt_spread), .i (c_w_rtt_rto), .i (n2), .i (size)])
def CtrlFire_13084_L {α : Type} (kx : Nat → List Leaf → Option α) (kr : List Leaf → Option α) : Nat → Int → Int → Int → Int → Int → Bool → Int → Bool → Bool → Int → Bool → Int → Int → Int → Int → Int → Int → Int → Option α
  | 0, _, _, _, _, _, _, _, _, _, _, _, _, _, _, _, _, _, _ => none
  | n + 1, c_w_cwnd, c_w_slow, c_w_pipe, c_w_count, c_w_halved_n, c_w_halved_is, c_w_last_n, c_w_last_is, c_w_runs, c_w_due, c_w_rtt_any, c_w_rtt_smooth, c_w_rtt_spread, c_w_rtt_rto, i, now, n2, size => CtrlFire_13084_B  kx kr (CtrlFire_13084_L kx kr n) c_w_cwnd c_w_slow c_w_pipe c_w_count c_w_halved_n c_w_halved_is c_w_last_n c_w_last_is c_w_runs c_w_due c_w_rtt_any c_w_rtt_smooth c_w_rtt_spread c_w_rtt_rto i now n2 size
def CtrlFire_13084_F (L13084 : ({β : Type} → (Nat → List Leaf → Option β) → (List Leaf → Option β) → Nat → Int → Int → Int → Int → Int → Bool → Int → Bool → Bool → Int → Bool → Int → Int → Int → Int → Int → Int → Int → Option β)) {α : Type} (n : Nat) (ls : List Leaf) (kx : Nat → List Leaf → Option α) (kr : List Leaf → Option α) : Option α := un_i ls fun c_w_cwnd rr => un_i rr fun c_w_slow rr => un_i rr fun c_w_pipe rr => un_i rr fun c_w_count rr => un_i rr fun c_w_halved_n rr => un_b rr fun c_w_halved_is rr => un_i rr fun c_w_last_n rr => un_b rr fun c_w_last_is rr => un_b rr fun c_w_runs rr => un_i rr fun c_w_due rr => un_b rr fun c_w_rtt_any rr => un_i rr fun c_w_rtt_smooth rr => un_i rr fun c_w_rtt_spread rr => un_i rr fun c_w_rtt_rto rr => un_i rr fun i rr => un_i rr fun now rr => un_i rr fun n2 rr => un_i rr fun size rr => un_nil rr (L13084 kx kr n c_w_cwnd c_w_slow c_w_pipe c_w_count c_w_halved_n c_w_halved_is c_w_last_n c_w_last_is c_w_runs c_w_due c_w_rtt_any c_w_rtt_smooth c_w_rtt_spread c_w_rtt_rto i now n2 size)
def CtrlFire_13088_B  {α : Type} (kx : Nat → List Leaf → Option α) (kr : List Leaf → Option α) (again : List Int → List Int → Int → Int → Int → Int → Int → Bool → Int → Bool → Bool → Int → Int → Int → Int → Int → Int → Int → Int → Int → Int → Option α) (c_t_set_l0 : List Int) (c_t_set_l1 : List Int) (c_last : Int) (c_t_s : Int) (c_t_x : Int) (c_t_loss : Int) (c_t_rtt : Int) (c_t_heard : Bool) (c_t_doubled : Int) (c_t_began : Bool) (c_t_started : Bool) (c_t_due : Int) (c_p_s : Int) (c_p_tick : Int) (c_p_has : Int) (c_p_rate : Int) (c_p_now : Int) (i : Int) (now : Int) (n2 : Int) (size : Int) : Option α :=
  one (remI .i64 n2 6) fun x1746 =>
  one (addI .i64 x1746 6) fun x1747 =>
  one (remI .i64 x1747 6) fun x1748 =>
  br (decide (i ≤ x1748))
    (one (wrapI .u64 i) fun x1749 =>
     chk (decide (Int.ofNat (List.length c_t_set_l0) = Int.ofNat (List.length c_t_set_l0)) && true && true) <|
     out (cr_Sent c_t_set_l0 c_t_set_l1 c_last c_t_s c_t_x c_t_loss c_t_rtt c_t_heard c_t_doubled c_t_began c_t_started c_t_due c_p_s c_p_tick c_p_has c_p_rate c_p_now now x1749 0) fun r1750 =>
     un_li r1750 fun x1751 r1752 =>
     un_li r1752 fun x1753 r1754 =>
     un_i r1754 fun x1755 r1756 =>
     un_i r1756 fun x1757 r1758 =>
     un_i r1758 fun x1759 r1760 =>
     un_i r1760 fun x1761 r1762 =>
     un_i r1762 fun x1763 r1764 =>
     un_b r1764 fun x1765 r1766 =>
     un_i r1766 fun x1767 r1768 =>
     un_b r1768 fun x1769 r1770 =>
     un_b r1770 fun x1771 r1772 =>
     un_i r1772 fun x1773 r1774 =>
     un_i r1774 fun x1775 r1776 =>
     un_i r1776 fun x1777 r1778 =>
     un_i r1778 fun x1779 r1780 =>
     un_i r1780 fun x1781 r1782 =>
     un_i r1782 fun x1783 r1784 =>
     un_b r1784 fun x1785 r1786 =>
     un_nil r1786 <|
     chk (decide (Int.ofNat (List.length x1751) = Int.ofNat (List.length x1751)) && true && true) <|
     out (cr_Due x1751 x1753 x1755 x1757 x1759 x1761 x1763 x1765 x1767 x1769 x1771 x1773 x1775 x1777 x1779 x1781 x1783) fun r1787 =>
     un_li r1787 fun x1788 r1789 =>
     un_li r1789 fun x1790 r1791 =>
     un_i r1791 fun x1792 r1793 =>
     un_i r1793 fun x1794 r1795 =>
     un_i r1795 fun x1796 r1797 =>
     un_i r1797 fun x1798 r1799 =>
     un_i r1799 fun x1800 r1801 =>
     un_b r1801 fun x1802 r1803 =>
     un_i r1803 fun x1804 r1805 =>
     un_b r1805 fun x1806 r1807 =>
     un_b r1807 fun x1808 r1809 =>
     un_i r1809 fun x1810 r1811 =>
     un_i r1811 fun x1812 r1813 =>
     un_i r1813 fun x1814 r1815 =>
     un_i r1815 fun x1816 r1817 =>
     un_i r1817 fun x1818 r1819 =>
     un_i r1819 fun x1820 r1821 =>
     un_i r1821 fun x1822 r1823 =>
     un_b r1823 fun x1824 r1825 =>
     un_nil r1825 <|
     one (x1822) fun x1826 =>
     br (!x1824)
       (kr [.b (false)])
       (br (decide (x1826 ≤ now))
          (kr [.b (false)])
          (one (subI .i64 x1826 1) fun x1827 =>
           chk (decide (Int.ofNat (List.length x1788) = Int.ofNat (List.length x1788)) && true && true) <|
           out (cr_Fire x1788 x1790 x1792 x1794 x1796 x1798 x1800 x1802 x1804 x1806 x1808 x1810 x1812 x1814 x1816 x1818 x1820 x1827) fun r1828 =>
           un_li r1828 fun x1829 r1830 =>
           un_li r1830 fun x1831 r1832 =>
           un_i r1832 fun x1833 r1834 =>
           un_i r1834 fun x1835 r1836 =>
           un_i r1836 fun x1837 r1838 =>
           un_i r1838 fun x1839 r1840 =>
           un_i r1840 fun x1841 r1842 =>
           un_b r1842 fun x1843 r1844 =>
           un_i r1844 fun x1845 r1846 =>
           un_b r1846 fun x1847 r1848 =>
           un_b r1848 fun x1849 r1850 =>
           un_i r1850 fun x1851 r1852 =>
           un_i r1852 fun x1853 r1854 =>
           un_i r1854 fun x1855 r1856 =>
           un_i r1856 fun x1857 r1858 =>
           un_i r1858 fun x1859 r1860 =>
           un_i r1860 fun x1861 r1862 =>
           un_b r1862 fun x1863 r1864 =>
           un_nil r1864 <|
           br (x1863)
             (kr [.b (false)])
             (chk (decide (Int.ofNat (List.length x1829) = Int.ofNat (List.length x1829)) && true && true) <|
              out (cr_Fire x1829 x1831 x1833 x1835 x1837 x1839 x1841 x1843 x1845 x1847 x1849 x1851 x1853 x1855 x1857 x1859 x1861 x1826) fun r1865 =>
              un_li r1865 fun x1866 r1867 =>
              un_li r1867 fun x1868 r1869 =>
              un_i r1869 fun x1870 r1871 =>
              un_i r1871 fun x1872 r1873 =>
              un_i r1873 fun x1874 r1875 =>
              un_i r1875 fun x1876 r1877 =>
              un_i r1877 fun x1878 r1879 =>
              un_b r1879 fun x1880 r1881 =>
              un_i r1881 fun x1882 r1883 =>
              un_b r1883 fun x1884 r1885 =>
              un_b r1885 fun x1886 r1887 =>
              un_i r1887 fun x1888 r1889 =>
              un_i r1889 fun x1890 r1891 =>
              un_i r1891 fun x1892 r1893 =>
              un_i r1893 fun x1894 r1895 =>
              un_i r1895 fun x1896 r1897 =>
              un_i r1897 fun x1898 r1899 =>
              un_b r1899 fun x1900 r1901 =>
              un_nil r1901 <|
              br (!x1900)
                (kr [.b (false)])
                (one (addI .i64 i 1) fun x1902 =>
                 chk (decide (Int.ofNat (List.length x1866) = Int.ofNat (List.length x1866)) && true && true) <|
                 again (x1866) (x1868) (x1870) (x1872) (x1874) (x1876) (x1878) (x1880) (x1882) (x1884) (x1886) (x1888) (x1890) (x1892) (x1894) (x1896) (x1898) (x1902) (x1826) (n2) (size))))))
    (chk (decide (Int.ofNat (List.length c_t_set_l0) = Int.ofNat (List.length c_t_set_l0)) && true && true) <|
     kx 0 [.li (c_t_set_l0), .li (c_t_set_l1), .i (c_last), .i (c_t_s), .i (c_t_x), .i (c_t_loss), .i (c_t_rtt), .b (c_t_heard), .i (c_t_doubled), .b (c_t_began), .b (c_t_started), .i (c_t_due), .i (c_p_s), .i (c_p_tick), .i (c_p_has), .i (c_p_rate), .i (c_p_now), .i (n2), .i (size)])
def CtrlFire_13088_L {α : Type} (kx : Nat → List Leaf → Option α) (kr : List Leaf → Option α) : Nat → List Int → List Int → Int → Int → Int → Int → Int → Bool → Int → Bool → Bool → Int → Int → Int → Int → Int → Int → Int → Int → Int → Int → Option α
  | 0, _, _, _, _, _, _, _, _, _, _, _, _, _, _, _, _, _, _, _, _, _ => none
  | n + 1, c_t_set_l0, c_t_set_l1, c_last, c_t_s, c_t_x, c_t_loss, c_t_rtt, c_t_heard, c_t_doubled, c_t_began, c_t_started, c_t_due, c_p_s, c_p_tick, c_p_has, c_p_rate, c_p_now, i, now, n2, size => CtrlFire_13088_B  kx kr (CtrlFire_13088_L kx kr n) c_t_set_l0 c_t_set_l1 c_last c_t_s c_t_x c_t_loss c_t_rtt c_t_heard c_t_doubled c_t_began c_t_started c_t_due c_p_s c_p_tick c_p_has c_p_rate c_p_now i now n2 size
def CtrlFire_13088_F (L13088 : ({β : Type} → (Nat → List Leaf → Option β) → (List Leaf → Option β) → Nat → List Int → List Int → Int → Int → Int → Int → Int → Bool → Int → Bool → Bool → Int → Int → Int → Int → Int → Int → Int → Int → Int → Int → Option β)) {α : Type} (n : Nat) (ls : List Leaf) (kx : Nat → List Leaf → Option α) (kr : List Leaf → Option α) : Option α := un_li ls fun c_t_set_l0 rr => un_li rr fun c_t_set_l1 rr => un_i rr fun c_last rr => un_i rr fun c_t_s rr => un_i rr fun c_t_x rr => un_i rr fun c_t_loss rr => un_i rr fun c_t_rtt rr => un_b rr fun c_t_heard rr => un_i rr fun c_t_doubled rr => un_b rr fun c_t_began rr => un_b rr fun c_t_started rr => un_i rr fun c_t_due rr => un_i rr fun c_p_s rr => un_i rr fun c_p_tick rr => un_i rr fun c_p_has rr => un_i rr fun c_p_rate rr => un_i rr fun c_p_now rr => un_i rr fun i rr => un_i rr fun now rr => un_i rr fun n2 rr => un_i rr fun size rr => un_nil rr (L13088 kx kr n c_t_set_l0 c_t_set_l1 c_last c_t_s c_t_x c_t_loss c_t_rtt c_t_heard c_t_doubled c_t_began c_t_started c_t_due c_p_s c_p_tick c_p_has c_p_rate c_p_now i now n2 size)
def CtrlFire_d (L13084 : ({β : Type} → (Nat → List Leaf → Option β) → (List Leaf → Option β) → Nat → Int → Int → Int → Int → Int → Bool → Int → Bool → Bool → Int → Bool → Int → Int → Int → Int → Int → Int → Int → Option β)) (L13088 : ({β : Type} → (Nat → List Leaf → Option β) → (List Leaf → Option β) → Nat → List Int → List Int → Int → Int → Int → Int → Int → Bool → Int → Bool → Bool → Int → Int → Int → Int → Int → Int → Int → Int → Int → Int → Option β)) (kind : Int) (size : Int) (n2 : Int) : Option (List Leaf) :=
  one (andI .i64 kind 1) fun x1903 =>
  one (addI .i64 2 x1903) fun x1904 =>
  one (remI .i64 size 1400) fun x1905 =>
  one (addI .i64 x1905 1400) fun x1906 =>
  one (remI .i64 x1906 1400) fun x1907 =>
  one (addI .i64 1 x1907) fun x1908 =>
  out (tfrc_New x1908) fun r1909 =>
  un_li r1909 fun x1910 r1911 =>
  un_li r1911 fun x1912 r1913 =>
  un_i r1913 fun x1914 r1915 =>
  un_i r1915 fun x1916 r1917 =>
  un_i r1917 fun x1918 r1919 =>
  un_i r1919 fun x1920 r1921 =>
  un_b r1921 fun x1922 r1923 =>
  un_i r1923 fun x1924 r1925 =>
  un_b r1925 fun x1926 r1927 =>
  un_b r1927 fun x1928 r1929 =>
  un_i r1929 fun x1930 r1931 =>
  un_nil r1931 <|
  br (x1904 == 2)
    (out (win_New) fun r1932 =>
     un_i r1932 fun x1933 r1934 =>
     un_i r1934 fun x1935 r1936 =>
     un_i r1936 fun x1937 r1938 =>
     un_i r1938 fun x1939 r1940 =>
     un_i r1940 fun x1941 r1942 =>
     un_b r1942 fun x1943 r1944 =>
     un_i r1944 fun x1945 r1946 =>
     un_b r1946 fun x1947 r1948 =>
     un_b r1948 fun x1949 r1950 =>
     un_i r1950 fun x1951 r1952 =>
     un_b r1952 fun x1953 r1954 =>
     un_i r1954 fun x1955 r1956 =>
     un_i r1956 fun x1957 r1958 =>
     un_i r1958 fun x1959 r1960 =>
     un_nil r1960 <|
     out (cw_Fire x1933 x1935 x1937 x1939 x1941 x1943 x1945 x1947 x1949 x1951 x1953 x1955 x1957 x1959 1099511627776) fun r1961 =>
     un_i r1961 fun x1962 r1963 =>
     un_i r1963 fun x1964 r1965 =>
     un_i r1965 fun x1966 r1967 =>
     un_i r1967 fun x1968 r1969 =>
     un_i r1969 fun x1970 r1971 =>
     un_b r1971 fun x1972 r1973 =>
     un_i r1973 fun x1974 r1975 =>
     un_b r1975 fun x1976 r1977 =>
     un_b r1977 fun x1978 r1979 =>
     un_i r1979 fun x1980 r1981 =>
     un_b r1981 fun x1982 r1983 =>
     un_i r1983 fun x1984 r1985 =>
     un_i r1985 fun x1986 r1987 =>
     un_i r1987 fun x1988 r1989 =>
     un_b r1989 fun x1990 r1991 =>
     un_nil r1991 <|
     br (x1990)
       (some [.b (false)])
       (out (cw_Due x1962 x1964 x1966 x1968 x1970 x1972 x1974 x1976 x1978 x1980 x1982 x1984 x1986 x1988) fun r1992 =>
        un_i r1992 fun x1993 r1994 =>
        un_i r1994 fun x1995 r1996 =>
        un_i r1996 fun x1997 r1998 =>
        un_i r1998 fun x1999 r2000 =>
        un_i r2000 fun x2001 r2002 =>
        un_b r2002 fun x2003 r2004 =>
        un_i r2004 fun x2005 r2006 =>
        un_b r2006 fun x2007 r2008 =>
        un_b r2008 fun x2009 r2010 =>
        un_i r2010 fun x2011 r2012 =>
        un_b r2012 fun x2013 r2014 =>
        un_i r2014 fun x2015 r2016 =>
        un_i r2016 fun x2017 r2018 =>
        un_i r2018 fun x2019 r2020 =>
        un_i r2020 fun x2021 r2022 =>
        un_b r2022 fun x2023 r2024 =>
        un_nil r2024 <|
        one (x2021) fun x2025 =>
        br (x2023)
          (some [.b (false)])
          (L13084
             (fun i2026 r2027 =>
              br (Nat.beq 0 i2026)
                (un_i r2027 fun x2028 r2029 =>
                 un_i r2029 fun x2030 r2031 =>
                 un_i r2031 fun x2032 r2033 =>
                 un_i r2033 fun x2034 r2035 =>
                 un_i r2035 fun x2036 r2037 =>
                 un_b r2037 fun x2038 r2039 =>
                 un_i r2039 fun x2040 r2041 =>
                 un_b r2041 fun x2042 r2043 =>
                 un_b r2043 fun x2044 r2045 =>
                 un_i r2045 fun x2046 r2047 =>
                 un_b r2047 fun x2048 r2049 =>
                 un_i r2049 fun x2050 r2051 =>
                 un_i r2051 fun x2052 r2053 =>
                 un_i r2053 fun x2054 r2055 =>
                 un_i r2055 fun x2056 r2057 =>
                 un_i r2057 fun x2058 r2059 =>
                 un_nil r2059 <|
                 out (win_Cwnd x2028 x2030 x2032 x2034 x2036 x2038 x2040 x2042 x2044 x2046 x2048 x2050 x2052 x2054) fun r2060 =>
                 un_i r2060 fun x2061 r2062 =>
                 un_nil r2062 <|
                 br (x2061 == 1)
                   (out (win_Pipe x2028 x2030 x2032 x2034 x2036 x2038 x2040 x2042 x2044 x2046 x2048 x2050 x2052 x2054) fun r2063 =>
                    un_i r2063 fun x2064 r2065 =>
                    un_nil r2065 <|
                    some [.b (x2064 == 0)])
                   (some [.b (false)]))
                (none))
             (fun r2066 =>
              un_b r2066 fun x2067 r2068 =>
              un_nil r2068 <|
              some [.b (x2067)])
             top (x1993) (x1995) (x1997) (x1999) (x2001) (x2003) (x2005) (x2007) (x2009) (x2011) (x2013) (x2015) (x2017) (x2019) (0) (1099511627776) (n2) (x1908))))
    (br (x1904 == 3)
       (out (pace_New 1400 10000) fun r2069 =>
        un_i r2069 fun x2070 r2071 =>
        un_i r2071 fun x2072 r2073 =>
        un_i r2073 fun x2074 r2075 =>
        un_i r2075 fun x2076 r2077 =>
        un_i r2077 fun x2078 r2079 =>
        un_nil r2079 <|
        chk (decide (Int.ofNat (List.length x1910) = Int.ofNat (List.length x1910)) && true && true) <|
        out (cr_Fire x1910 x1912 0 x1914 x1916 x1918 x1920 x1922 x1924 x1926 x1928 x1930 x2070 x2072 x2074 x2076 x2078 1099511627776) fun r2080 =>
        un_li r2080 fun x2081 r2082 =>
        un_li r2082 fun x2083 r2084 =>
        un_i r2084 fun x2085 r2086 =>
        un_i r2086 fun x2087 r2088 =>
        un_i r2088 fun x2089 r2090 =>
        un_i r2090 fun x2091 r2092 =>
        un_i r2092 fun x2093 r2094 =>
        un_b r2094 fun x2095 r2096 =>
        un_i r2096 fun x2097 r2098 =>
        un_b r2098 fun x2099 r2100 =>
        un_b r2100 fun x2101 r2102 =>
        un_i r2102 fun x2103 r2104 =>
        un_i r2104 fun x2105 r2106 =>
        un_i r2106 fun x2107 r2108 =>
        un_i r2108 fun x2109 r2110 =>
        un_i r2110 fun x2111 r2112 =>
        un_i r2112 fun x2113 r2114 =>
        un_b r2114 fun x2115 r2116 =>
        un_nil r2116 <|
        br (x2115)
          (some [.b (false)])
          (chk (decide (Int.ofNat (List.length x2081) = Int.ofNat (List.length x2081)) && true && true) <|
           out (cr_Due x2081 x2083 x2085 x2087 x2089 x2091 x2093 x2095 x2097 x2099 x2101 x2103 x2105 x2107 x2109 x2111 x2113) fun r2117 =>
           un_li r2117 fun x2118 r2119 =>
           un_li r2119 fun x2120 r2121 =>
           un_i r2121 fun x2122 r2123 =>
           un_i r2123 fun x2124 r2125 =>
           un_i r2125 fun x2126 r2127 =>
           un_i r2127 fun x2128 r2129 =>
           un_i r2129 fun x2130 r2131 =>
           un_b r2131 fun x2132 r2133 =>
           un_i r2133 fun x2134 r2135 =>
           un_b r2135 fun x2136 r2137 =>
           un_b r2137 fun x2138 r2139 =>
           un_i r2139 fun x2140 r2141 =>
           un_i r2141 fun x2142 r2143 =>
           un_i r2143 fun x2144 r2145 =>
           un_i r2145 fun x2146 r2147 =>
           un_i r2147 fun x2148 r2149 =>
           un_i r2149 fun x2150 r2151 =>
           un_i r2151 fun x2152 r2153 =>
           un_b r2153 fun x2154 r2155 =>
           un_nil r2155 <|
           one (x2152) fun x2156 =>
           br (x2154)
             (some [.b (false)])
             (chk (decide (Int.ofNat (List.length x2118) = Int.ofNat (List.length x2118)) && true && true) <|
              L13088
                (fun i2157 r2158 =>
                 br (Nat.beq 0 i2157)
                   (un_li r2158 fun x2159 r2160 =>
                    un_li r2160 fun x2161 r2162 =>
                    un_i r2162 fun x2163 r2164 =>
                    un_i r2164 fun x2165 r2166 =>
                    un_i r2166 fun x2167 r2168 =>
                    un_i r2168 fun x2169 r2170 =>
                    un_i r2170 fun x2171 r2172 =>
                    un_b r2172 fun x2173 r2174 =>
                    un_i r2174 fun x2175 r2176 =>
                    un_b r2176 fun x2177 r2178 =>
                    un_b r2178 fun x2179 r2180 =>
                    un_i r2180 fun x2181 r2182 =>
                    un_i r2182 fun x2183 r2184 =>
                    un_i r2184 fun x2185 r2186 =>
                    un_i r2186 fun x2187 r2188 =>
                    un_i r2188 fun x2189 r2190 =>
                    un_i r2190 fun x2191 r2192 =>
                    un_i r2192 fun x2193 r2194 =>
                    un_i r2194 fun x2195 r2196 =>
                    un_nil r2196 <|
                    chk (decide (Int.ofNat (List.length x2159) = Int.ofNat (List.length x2159)) && true && true) <|
                    out (tfrc_Rate x2159 x2161 x2165 x2167 x2169 x2171 x2173 x2175 x2177 x2179 x2181) fun r2197 =>
                    un_i r2197 fun x2198 r2199 =>
                    un_nil r2199 <|
                    one (mulI .i64 64 x2195) fun x2200 =>
                    one (remI .i64 x2193 6) fun x2201 =>
                    one (addI .i64 x2201 6) fun x2202 =>
                    one (remI .i64 x2202 6) fun x2203 =>
                    one (addI .i64 x2203 1) fun x2204 =>
                    chk (decide (0 ≤ x2204)) <|
                    one (shrI .i64 x2200 x2204) fun x2205 =>
                    one (maxI x2195 x2205) fun x2206 =>
                    one (wrapI .u64 x2206) fun x2207 =>
                    some [.b (x2198 == x2207)])
                   (none))
                (fun r2208 =>
                 un_b r2208 fun x2209 r2210 =>
                 un_nil r2210 <|
                 some [.b (x2209)])
                top (x2118) (x2120) (x2122) (x2124) (x2126) (x2128) (x2130) (x2132) (x2134) (x2136) (x2138) (x2140) (x2142) (x2144) (x2146) (x2148) (x2150) (0) (1099511627776) (n2) (x1908))))
       (some [.b (false)]))
def CtrlFire (kind : Int) (size : Int) (n2 : Int) : Option (List Leaf) := CtrlFire_d @CtrlFire_13084_L @CtrlFire_13088_L kind size n2
end Go.Sx.T

