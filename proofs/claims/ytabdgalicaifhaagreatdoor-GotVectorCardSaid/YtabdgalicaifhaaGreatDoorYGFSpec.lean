import Derived.Test.YtabdgalicaifhaaGreatDoorYGotSpec
import Derived.Test.YtabdgalicaifhaaGreatDoorYFixSpec
set_option linter.all false
namespace Go.Sx.T
open Go Go.Sx
def GotFar (first : Int) (far : Int) : Option (List Leaf) :=
  one (remI .i64 far 20) fun x2032 =>
  one (addI .i64 x2032 20) fun x2033 =>
  one (remI .i64 x2033 20) fun x2034 =>
  one (addI .i64 240 x2034) fun x2035 =>
  out (got_New) fun r2036 =>
  un_li r2036 fun x2037 r2038 =>
  un_li r2038 fun x2039 r2040 =>
  un_i r2040 fun x2041 r2042 =>
  un_b r2042 fun x2043 r2044 =>
  un_i r2044 fun x2045 r2046 =>
  un_b r2046 fun x2047 r2048 =>
  un_nil r2048 <|
  out (ref_Step first x2035) fun r2049 =>
  un_i r2049 fun x2050 r2051 =>
  un_nil r2051 <|
  out (got_Put x2037 x2039 x2041 x2043 x2045 x2047 first false) fun r2052 =>
  un_li r2052 fun x2053 r2054 =>
  un_li r2054 fun x2055 r2056 =>
  un_i r2056 fun x2057 r2058 =>
  un_b r2058 fun x2059 r2060 =>
  un_i r2060 fun x2061 r2062 =>
  un_b r2062 fun x2063 r2064 =>
  un_b r2064 fun x2065 r2066 =>
  un_nil r2066 <|
  br (!x2065)
    (some [.b (false)])
    (out (got_Put x2053 x2055 x2057 x2059 x2061 x2063 x2050 false) fun r2067 =>
     un_li r2067 fun x2068 r2069 =>
     un_li r2069 fun x2070 r2071 =>
     un_i r2071 fun x2072 r2073 =>
     un_b r2073 fun x2074 r2075 =>
     un_i r2075 fun x2076 r2077 =>
     un_b r2077 fun x2078 r2079 =>
     un_b r2079 fun x2080 r2081 =>
     un_nil r2081 <|
     br (!x2080)
       (some [.b (false)])
       (out (got_Cells x2068 x2070 x2072 x2074 x2076 x2078) fun r2082 =>
        un_li r2082 fun x2083 r2084 =>
        un_li r2084 fun x2085 r2086 =>
        un_li r2086 fun x2087 r2088 =>
        un_li r2088 fun x2089 r2090 =>
        un_i r2090 fun x2091 r2092 =>
        un_b r2092 fun x2093 r2094 =>
        un_i r2094 fun x2095 r2096 =>
        un_b r2096 fun x2097 r2098 =>
        un_nil r2098 <|
        chk (decide (Int.ofNat (List.length x2087) = Int.ofNat (List.length x2087)) && true) <|
        out (vec_Spread x2087 x2089) fun r2099 =>
        un_li r2099 fun x2100 r2101 =>
        un_nil r2101 <|
        one (addI .i64 x2035 1) fun x2102 =>
        br (decide (x2035 ≥ 250))
          (out (got_Has x2083 x2085 x2091 x2093 x2095 x2097 first) fun r2103 =>
           un_b r2103 fun x2104 r2105 =>
           un_nil r2105 <|
           br (x2104 == !decide (x2035 ≥ 250))
             (one (Int.ofNat (List.length x2100)) fun x2106 =>
              br (x2106 == 1)
                (out (got_Put x2083 x2085 x2091 x2093 x2095 x2097 first true) fun r2107 =>
                 un_li r2107 fun x2108 r2109 =>
                 un_li r2109 fun x2110 r2111 =>
                 un_i r2111 fun x2112 r2113 =>
                 un_b r2113 fun x2114 r2115 =>
                 un_i r2115 fun x2116 r2117 =>
                 un_b r2117 fun x2118 r2119 =>
                 un_b r2119 fun x2120 r2121 =>
                 un_nil r2121 <|
                 br (!x2120)
                   (out (ref_Step x2050 (-249)) fun r2122 =>
                    un_i r2122 fun x2123 r2124 =>
                    un_nil r2124 <|
                    out (got_Put x2108 x2110 x2112 x2114 x2116 x2118 x2123 false) fun r2125 =>
                    un_li r2125 fun x2126 r2127 =>
                    un_li r2127 fun x2128 r2129 =>
                    un_i r2129 fun x2130 r2131 =>
                    un_b r2131 fun x2132 r2133 =>
                    un_i r2133 fun x2134 r2135 =>
                    un_b r2135 fun x2136 r2137 =>
                    un_b r2137 fun x2138 r2139 =>
                    un_nil r2139 <|
                    some [.b (x2138 == (x2035 != 249))])
                   (some [.b (false)]))
                (some [.b (false)]))
             (some [.b (false)]))
          (out (got_Has x2083 x2085 x2091 x2093 x2095 x2097 first) fun r2140 =>
           un_b r2140 fun x2141 r2142 =>
           un_nil r2142 <|
           br (x2141 == !decide (x2035 ≥ 250))
             (one (Int.ofNat (List.length x2100)) fun x2143 =>
              br (x2143 == x2102)
                (out (got_Put x2083 x2085 x2091 x2093 x2095 x2097 first true) fun r2144 =>
                 un_li r2144 fun x2145 r2146 =>
                 un_li r2146 fun x2147 r2148 =>
                 un_i r2148 fun x2149 r2150 =>
                 un_b r2150 fun x2151 r2152 =>
                 un_i r2152 fun x2153 r2154 =>
                 un_b r2154 fun x2155 r2156 =>
                 un_b r2156 fun x2157 r2158 =>
                 un_nil r2158 <|
                 br (!x2157)
                   (out (ref_Step x2050 (-249)) fun r2159 =>
                    un_i r2159 fun x2160 r2161 =>
                    un_nil r2161 <|
                    out (got_Put x2145 x2147 x2149 x2151 x2153 x2155 x2160 false) fun r2162 =>
                    un_li r2162 fun x2163 r2164 =>
                    un_li r2164 fun x2165 r2166 =>
                    un_i r2166 fun x2167 r2168 =>
                    un_b r2168 fun x2169 r2170 =>
                    un_i r2170 fun x2171 r2172 =>
                    un_b r2172 fun x2173 r2174 =>
                    un_b r2174 fun x2175 r2176 =>
                    un_nil r2176 <|
                    some [.b (x2175 == (x2035 != 249))])
                   (some [.b (false)]))
                (some [.b (false)]))
             (some [.b (false)]))))
end Go.Sx.T

