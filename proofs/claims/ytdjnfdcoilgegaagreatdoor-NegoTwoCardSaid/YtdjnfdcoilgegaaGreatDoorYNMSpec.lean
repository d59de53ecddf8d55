import Derived.Test.YtdjnfdcoilgegaaGreatDoorYNegoSpec
import Derived.Test.YtdjnfdcoilgegaaGreatDoorYR18Spec
set_option linter.all false
namespace Go.Sx.T
open Go Go.Sx
def NegoMust (t : Int) (v : ByteArray) (data : ByteArray) : Option (List Leaf) :=
  out (nego_New true) fun r1825 =>
  un_li r1825 fun x1826 r1827 =>
  un_ls r1827 fun x1828 r1829 =>
  un_li r1829 fun x1830 r1831 =>
  un_ls r1831 fun x1832 r1833 =>
  un_li r1833 fun x1834 r1835 =>
  un_ls r1835 fun x1836 r1837 =>
  un_li r1837 fun x1838 r1839 =>
  un_ls r1839 fun x1840 r1841 =>
  un_li r1841 fun x1842 r1843 =>
  un_ls r1843 fun x1844 r1845 =>
  un_b r1845 fun x1846 r1847 =>
  un_nil r1847 <|
  one (remI .i64 t 90) fun x1848 =>
  one (addI .i64 x1848 90) fun x1849 =>
  one (remI .i64 x1849 90) fun x1850 =>
  one (addI .i64 100 x1850) fun x1851 =>
  out (r18_May 1 v) fun r1852 =>
  un_b r1852 fun x1853 r1854 =>
  un_nil r1854 <|
  br (!x1853)
    (out (law1_Text data 9) fun r1855 =>
     un_s r1855 fun x1856 r1857 =>
     un_nil r1857 <|
     chk (decide (Int.ofNat (List.length x1842) = Int.ofNat (List.length x1842)) && true && true) <|
     chk (decide ((↑(4 : Nat) : Int) = Int.ofNat (List.length [(1 : Int), (32 : Int), x1851, (2 : Int)])) && true) <|
     out (nego_Take x1826 x1828 x1830 x1832 x1834 x1836 x1838 x1840 x1842 x1844 [(1 : Int), (32 : Int), x1851, (2 : Int)] [ByteArray.empty, { data := #[(1 : UInt8)] } ++ { data := #[(2 : UInt8)] }, x1856, ByteArray.empty] x1846) fun r1858 =>
     un_li r1858 fun x1859 r1860 =>
     un_ls r1860 fun x1861 r1862 =>
     un_li r1862 fun x1863 r1864 =>
     un_ls r1864 fun x1865 r1866 =>
     un_li r1866 fun x1867 r1868 =>
     un_ls r1868 fun x1869 r1870 =>
     un_li r1870 fun x1871 r1872 =>
     un_ls r1872 fun x1873 r1874 =>
     un_li r1874 fun x1875 r1876 =>
     un_ls r1876 fun x1877 r1878 =>
     un_b r1878 fun x1879 r1880 =>
     un_b r1880 fun x1881 r1882 =>
     un_nil r1882 <|
     br (!x1881)
       (some [.b (false)])
       (chk (decide (Int.ofNat (List.length x1875) = Int.ofNat (List.length x1875)) && true && true) <|
        out (nego_Theirs x1859 x1861 x1863 x1865 x1867 x1869 x1871 x1873 x1875 x1877 x1879 1) fun r1883 =>
        un_s r1883 fun x1884 r1885 =>
        un_nil r1885 <|
        one (bt { data := #[(2 : UInt8)] } (0 : Int)) fun x1886 =>
        one ((↑(ByteArray.size { data := #[(2 : UInt8)] }) : Int)) fun x1887 =>
        one (subI .i64 x1887 1) fun x1888 =>
        chk (decide ((0 : Int) ≤ x1888 ∧ x1888 < (↑(ByteArray.size { data := #[(2 : UInt8)] }) : Int))) <|
        one (bt { data := #[(2 : UInt8)] } x1888) fun x1889 =>
        one (minI x1886 x1889) fun x1890 =>
        one (wrapI .u64 x1890) fun x1891 =>
        out (ref_Bytes x1891 1) fun r1892 =>
        un_s r1892 fun x1893 r1894 =>
        un_nil r1894 <|
        br (!x1884 == x1893)
          (some [.b (false)])
          (chk (decide (Int.ofNat (List.length x1875) = Int.ofNat (List.length x1875)) && true && true) <|
           out (nego_Opts x1859 x1861 x1863 x1865 x1867 x1869 x1871 x1873 x1875 x1877 x1879) fun r1895 =>
           un_li r1895 fun x1896 r1897 =>
           un_ls r1897 fun x1898 r1899 =>
           un_li r1899 fun x1900 r1901 =>
           un_ls r1901 fun x1902 r1903 =>
           un_li r1903 fun x1904 r1905 =>
           un_ls r1905 fun x1906 r1907 =>
           un_li r1907 fun x1908 r1909 =>
           un_ls r1909 fun x1910 r1911 =>
           un_li r1911 fun x1912 r1913 =>
           un_ls r1913 fun x1914 r1915 =>
           un_li r1915 fun x1916 r1917 =>
           un_ls r1917 fun x1918 r1919 =>
           un_b r1919 fun x1920 r1921 =>
           un_nil r1921 <|
           out (law1_Text data 9) fun r1922 =>
           un_s r1922 fun x1923 r1924 =>
           un_nil r1924 <|
           chk (decide (Int.ofNat (List.length x1912) = Int.ofNat (List.length x1912)) && true && true) <|
           chk (decide ((↑(3 : Nat) : Int) = Int.ofNat (List.length [(1 : Int), x1851, (32 : Int)])) && true) <|
           out (nego_Take x1896 x1898 x1900 x1902 x1904 x1906 x1908 x1910 x1912 x1914 [(1 : Int), x1851, (32 : Int)] [ByteArray.empty, x1923, { data := #[(6 : UInt8), (1 : UInt8)] }] x1920) fun r1925 =>
           un_li r1925 fun x1926 r1927 =>
           un_ls r1927 fun x1928 r1929 =>
           un_li r1929 fun x1930 r1931 =>
           un_ls r1931 fun x1932 r1933 =>
           un_li r1933 fun x1934 r1935 =>
           un_ls r1935 fun x1936 r1937 =>
           un_li r1937 fun x1938 r1939 =>
           un_ls r1939 fun x1940 r1941 =>
           un_li r1941 fun x1942 r1943 =>
           un_ls r1943 fun x1944 r1945 =>
           un_b r1945 fun x1946 r1947 =>
           un_b r1947 fun x1948 r1949 =>
           un_nil r1949 <|
           br (!x1948)
             (chk (decide (Int.ofNat (List.length x1942) = Int.ofNat (List.length x1942)) && true && true) <|
              out (nego_Theirs x1926 x1928 x1930 x1932 x1934 x1936 x1938 x1940 x1942 x1944 x1946 6) fun r1950 =>
              un_s r1950 fun x1951 r1952 =>
              un_nil r1952 <|
              br (x1951 == { data := #[(0 : UInt8)] })
                (chk (decide (Int.ofNat (List.length x1942) = Int.ofNat (List.length x1942)) && true && true) <|
                 out (nego_Opts x1926 x1928 x1930 x1932 x1934 x1936 x1938 x1940 x1942 x1944 x1946) fun r1953 =>
                 un_li r1953 fun x1954 r1955 =>
                 un_ls r1955 fun x1956 r1957 =>
                 un_li r1957 fun x1958 r1959 =>
                 un_ls r1959 fun x1960 r1961 =>
                 un_li r1961 fun x1962 r1963 =>
                 un_ls r1963 fun x1964 r1965 =>
                 un_li r1965 fun x1966 r1967 =>
                 un_ls r1967 fun x1968 r1969 =>
                 un_li r1969 fun x1970 r1971 =>
                 un_ls r1971 fun x1972 r1973 =>
                 un_li r1973 fun x1974 r1975 =>
                 un_ls r1975 fun x1976 r1977 =>
                 un_b r1977 fun x1978 r1979 =>
                 un_nil r1979 <|
                 one (Int.ofNat (List.length x1974)) fun x1980 =>
                 some [.b (x1980 == 0)])
                (some [.b (false)]))
             (some [.b (false)]))))
    (chk (Nat.ble (ByteArray.size { data := #[(1 : UInt8)] } + ByteArray.size v) (9223372036854775807 : Nat)) <|
     out (law1_Text data 9) fun r1981 =>
     un_s r1981 fun x1982 r1983 =>
     un_nil r1983 <|
     chk (decide (Int.ofNat (List.length x1842) = Int.ofNat (List.length x1842)) && true && true) <|
     chk (decide ((↑(4 : Nat) : Int) = Int.ofNat (List.length [(1 : Int), (32 : Int), x1851, (2 : Int)])) && true) <|
     out (nego_Take x1826 x1828 x1830 x1832 x1834 x1836 x1838 x1840 x1842 x1844 [(1 : Int), (32 : Int), x1851, (2 : Int)] [ByteArray.empty, { data := #[(1 : UInt8)] } ++ v, x1982, ByteArray.empty] x1846) fun r1984 =>
     un_li r1984 fun x1985 r1986 =>
     un_ls r1986 fun x1987 r1988 =>
     un_li r1988 fun x1989 r1990 =>
     un_ls r1990 fun x1991 r1992 =>
     un_li r1992 fun x1993 r1994 =>
     un_ls r1994 fun x1995 r1996 =>
     un_li r1996 fun x1997 r1998 =>
     un_ls r1998 fun x1999 r2000 =>
     un_li r2000 fun x2001 r2002 =>
     un_ls r2002 fun x2003 r2004 =>
     un_b r2004 fun x2005 r2006 =>
     un_b r2006 fun x2007 r2008 =>
     un_nil r2008 <|
     br (!x2007)
       (some [.b (false)])
       (chk (decide (Int.ofNat (List.length x2001) = Int.ofNat (List.length x2001)) && true && true) <|
        out (nego_Theirs x1985 x1987 x1989 x1991 x1993 x1995 x1997 x1999 x2001 x2003 x2005 1) fun r2009 =>
        un_s r2009 fun x2010 r2011 =>
        un_nil r2011 <|
        chk (decide ((0 : Int) ≤ 0 ∧ 0 < (↑(ByteArray.size v) : Int))) <|
        one (bt v 0) fun x2012 =>
        one ((↑(ByteArray.size v) : Int)) fun x2013 =>
        one (subI .i64 x2013 1) fun x2014 =>
        chk (decide (0 ≤ x2014 ∧ x2014 < (↑(ByteArray.size v) : Int))) <|
        one (bt v x2014) fun x2015 =>
        one (minI x2012 x2015) fun x2016 =>
        one (wrapI .u64 x2016) fun x2017 =>
        out (ref_Bytes x2017 1) fun r2018 =>
        un_s r2018 fun x2019 r2020 =>
        un_nil r2020 <|
        br (!x2010 == x2019)
          (some [.b (false)])
          (chk (decide (Int.ofNat (List.length x2001) = Int.ofNat (List.length x2001)) && true && true) <|
           out (nego_Opts x1985 x1987 x1989 x1991 x1993 x1995 x1997 x1999 x2001 x2003 x2005) fun r2021 =>
           un_li r2021 fun x2022 r2023 =>
           un_ls r2023 fun x2024 r2025 =>
           un_li r2025 fun x2026 r2027 =>
           un_ls r2027 fun x2028 r2029 =>
           un_li r2029 fun x2030 r2031 =>
           un_ls r2031 fun x2032 r2033 =>
           un_li r2033 fun x2034 r2035 =>
           un_ls r2035 fun x2036 r2037 =>
           un_li r2037 fun x2038 r2039 =>
           un_ls r2039 fun x2040 r2041 =>
           un_li r2041 fun x2042 r2043 =>
           un_ls r2043 fun x2044 r2045 =>
           un_b r2045 fun x2046 r2047 =>
           un_nil r2047 <|
           out (law1_Text data 9) fun r2048 =>
           un_s r2048 fun x2049 r2050 =>
           un_nil r2050 <|
           chk (decide (Int.ofNat (List.length x2038) = Int.ofNat (List.length x2038)) && true && true) <|
           chk (decide ((↑(3 : Nat) : Int) = Int.ofNat (List.length [(1 : Int), x1851, (32 : Int)])) && true) <|
           out (nego_Take x2022 x2024 x2026 x2028 x2030 x2032 x2034 x2036 x2038 x2040 [(1 : Int), x1851, (32 : Int)] [ByteArray.empty, x2049, { data := #[(6 : UInt8), (1 : UInt8)] }] x2046) fun r2051 =>
           un_li r2051 fun x2052 r2053 =>
           un_ls r2053 fun x2054 r2055 =>
           un_li r2055 fun x2056 r2057 =>
           un_ls r2057 fun x2058 r2059 =>
           un_li r2059 fun x2060 r2061 =>
           un_ls r2061 fun x2062 r2063 =>
           un_li r2063 fun x2064 r2065 =>
           un_ls r2065 fun x2066 r2067 =>
           un_li r2067 fun x2068 r2069 =>
           un_ls r2069 fun x2070 r2071 =>
           un_b r2071 fun x2072 r2073 =>
           un_b r2073 fun x2074 r2075 =>
           un_nil r2075 <|
           br (!x2074)
             (chk (decide (Int.ofNat (List.length x2068) = Int.ofNat (List.length x2068)) && true && true) <|
              out (nego_Theirs x2052 x2054 x2056 x2058 x2060 x2062 x2064 x2066 x2068 x2070 x2072 6) fun r2076 =>
              un_s r2076 fun x2077 r2078 =>
              un_nil r2078 <|
              br (x2077 == { data := #[(0 : UInt8)] })
                (chk (decide (Int.ofNat (List.length x2068) = Int.ofNat (List.length x2068)) && true && true) <|
                 out (nego_Opts x2052 x2054 x2056 x2058 x2060 x2062 x2064 x2066 x2068 x2070 x2072) fun r2079 =>
                 un_li r2079 fun x2080 r2081 =>
                 un_ls r2081 fun x2082 r2083 =>
                 un_li r2083 fun x2084 r2085 =>
                 un_ls r2085 fun x2086 r2087 =>
                 un_li r2087 fun x2088 r2089 =>
                 un_ls r2089 fun x2090 r2091 =>
                 un_li r2091 fun x2092 r2093 =>
                 un_ls r2093 fun x2094 r2095 =>
                 un_li r2095 fun x2096 r2097 =>
                 un_ls r2097 fun x2098 r2099 =>
                 un_li r2099 fun x2100 r2101 =>
                 un_ls r2101 fun x2102 r2103 =>
                 un_b r2103 fun x2104 r2105 =>
                 un_nil r2105 <|
                 one (Int.ofNat (List.length x2100)) fun x2106 =>
                 some [.b (x2106 == 0)])
                (some [.b (false)]))
             (some [.b (false)]))))
end Go.Sx.T

