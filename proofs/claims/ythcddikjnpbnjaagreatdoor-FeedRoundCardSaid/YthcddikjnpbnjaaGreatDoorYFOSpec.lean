import Derived.Test.YthcddikjnpbnjaaGreatDoorYFPSpec
set_option linter.all false
namespace Go.Sx.T
open Go Go.Sx
def law_same_4_B  {α : Type} (kx : Nat → List Leaf → Option α) (kr : List Leaf → Option α) (again : List Int → List Int → Int → Int → Option α) (a : List Int) (b : List Int) (t13 : Int) (t12 : Int) : Option α :=
  br (decide (t13 < t12))
    (chk (decide ((0 : Int) ≤ t13 ∧ t13 < Int.ofNat (List.length a))) <|
     chk (decide ((0 : Int) ≤ t13 ∧ t13 < Int.ofNat (List.length a))) <|
     chk (decide ((0 : Int) ≤ t13 ∧ t13 < Int.ofNat (List.length b))) <|
     chk (decide ((0 : Int) ≤ t13 ∧ t13 < Int.ofNat (List.length b))) <|
     br (List.getD a (Int.toNat t13) 0 != List.getD b (Int.toNat t13) 0)
       (kr [.li (a), .li (b), .b (false)])
       (one (addI .i64 t13 1) fun x1970 =>
        chk (decide (Int.ofNat (List.length b) = Int.ofNat (List.length b)) && (decide (Int.ofNat (List.length a) = Int.ofNat (List.length a)) && true)) <|
        again (a) (b) (x1970) (t12)))
    (kx 0 [.li (a), .li (b)])
def law_same_4_L {α : Type} (kx : Nat → List Leaf → Option α) (kr : List Leaf → Option α) : Nat → List Int → List Int → Int → Int → Option α
  | 0, _, _, _, _ => none
  | n + 1, a, b, t13, t12 => law_same_4_B  kx kr (law_same_4_L kx kr n) a b t13 t12
def law_same_4_F (L4 : ({β : Type} → (Nat → List Leaf → Option β) → (List Leaf → Option β) → Nat → List Int → List Int → Int → Int → Option β)) {α : Type} (n : Nat) (ls : List Leaf) (kx : Nat → List Leaf → Option α) (kr : List Leaf → Option α) : Option α := un_li ls fun a rr => un_li rr fun b rr => un_i rr fun t13 rr => un_i rr fun t12 rr => un_nil rr (L4 kx kr n a b t13 t12)
def law_same_d (L4 : ({β : Type} → (Nat → List Leaf → Option β) → (List Leaf → Option β) → Nat → List Int → List Int → Int → Int → Option β)) (a : List Int) (b : List Int) : Option (List Leaf) :=
  one (Int.ofNat (List.length a)) fun x1971 =>
  one (Int.ofNat (List.length b)) fun x1972 =>
  br (x1971 != x1972)
    (some [.b (false)])
    (one (Int.ofNat (List.length a)) fun x1973 =>
     chk (decide (Int.ofNat (List.length b) = Int.ofNat (List.length b)) && (decide (Int.ofNat (List.length a) = Int.ofNat (List.length a)) && true)) <|
     L4
       (fun i1974 r1975 =>
        br (Nat.beq 0 i1974)
          (un_li r1975 fun x1976 r1977 =>
           un_li r1977 fun x1978 r1979 =>
           un_nil r1979 <|
           some [.b (true)])
          (none))
       (fun r1980 =>
        un_li r1980 fun x1981 r1982 =>
        un_li r1982 fun x1983 r1984 =>
        un_b r1984 fun x1985 r1986 =>
        un_nil r1986 <|
        some [.b (x1985)])
       top (a) (b) (0) (x1973))
def law_same (a : List Int) (b : List Int) : Option (List Leaf) := law_same_d @law_same_4_L a b
def FeedRound_6_B  {α : Type} (kx : Nat → List Leaf → Option α) (kr : List Leaf → Option α) (again : List Int → List Int → List Int → List Int → List Int → List Int → List Int → List Bool → List Int → List Int → List Int → List Int → List Bool → List Int → Int → Bool → Int → Int → Int → Int → Bool → Int → Int → Int → Int → Int → Bool → Int → Int → Int → Int → Bool → Int → Int → Int → Int → Int → Int → Option α) (ops0 : List Int) (ops1 : List Int) (ops2 : List Int) (ops3 : List Int) (b_got_k : List Int) (b_got_v : List Int) (b_lost_k : List Int) (b_lost_v : List Bool) (b_closed : List Int) (a_got_k : List Int) (a_got_v : List Int) (a_lost_k : List Int) (a_lost_v : List Bool) (a_closed : List Int) (b_r : Int) (b_any : Bool) (b_now : Int) (b_first : Int) (b_newest : Int) (b_count : Int) (b_event : Bool) (b_eventAt : Int) (b_eventN : Int) (b_bytes : Int) (b_since : Int) (a_r : Int) (a_any : Bool) (a_now : Int) (a_first : Int) (a_newest : Int) (a_count : Int) (a_event : Bool) (a_eventAt : Int) (a_eventN : Int) (a_bytes : Int) (a_since : Int) (i : Int) (by2 : Int) : Option α :=
  one (Int.ofNat (List.length ops0)) fun x2135 =>
  br (decide (i < x2135))
    (br (decide (i < 50))
       (chk (decide ((0 : Int) ≤ i ∧ i < Int.ofNat (List.length ops0))) <|
        chk (decide ((0 : Int) ≤ i ∧ i < Int.ofNat (List.length ops0))) <|
        one (minI (List.getD ops3 (Int.toNat i) 0) 2305843009213693952) fun x2136 =>
        one (maxI 0 x2136) fun x2137 =>
        one (remI .u64 (List.getD ops2 (Int.toNat i) 0) 400) fun x2138 =>
        chk (decide (Int.ofNat (List.length a_closed) = Int.ofNat (List.length a_closed)) && true && true) <|
        out (feed_Put a_got_k a_got_v a_lost_k a_lost_v a_closed a_r a_any a_now a_first a_newest a_count a_event a_eventAt a_eventN a_bytes a_since x2137 x2138 (List.getD ops1 (Int.toNat i) 0)) fun r2139 =>
        un_li r2139 fun x2140 r2141 =>
        un_li r2141 fun x2142 r2143 =>
        un_li r2143 fun x2144 r2145 =>
        un_lb r2145 fun x2146 r2147 =>
        un_li r2147 fun x2148 r2149 =>
        un_i r2149 fun x2150 r2151 =>
        un_b r2151 fun x2152 r2153 =>
        un_i r2153 fun x2154 r2155 =>
        un_i r2155 fun x2156 r2157 =>
        un_i r2157 fun x2158 r2159 =>
        un_i r2159 fun x2160 r2161 =>
        un_b r2161 fun x2162 r2163 =>
        un_i r2163 fun x2164 r2165 =>
        un_i r2165 fun x2166 r2167 =>
        un_i r2167 fun x2168 r2169 =>
        un_i r2169 fun x2170 r2171 =>
        un_b r2171 fun x2172 r2173 =>
        un_nil r2173 <|
        out (ref_Seq by2) fun r2174 =>
        un_i r2174 fun x2175 r2176 =>
        un_nil r2176 <|
        one (addI .u64 x2138 x2175) fun x2177 =>
        out (ref_Seq x2177) fun r2178 =>
        un_i r2178 fun x2179 r2180 =>
        un_nil r2180 <|
        chk (decide (Int.ofNat (List.length b_closed) = Int.ofNat (List.length b_closed)) && true && true) <|
        out (feed_Put b_got_k b_got_v b_lost_k b_lost_v b_closed b_r b_any b_now b_first b_newest b_count b_event b_eventAt b_eventN b_bytes b_since x2137 x2179 (List.getD ops1 (Int.toNat i) 0)) fun r2181 =>
        un_li r2181 fun x2182 r2183 =>
        un_li r2183 fun x2184 r2185 =>
        un_li r2185 fun x2186 r2187 =>
        un_lb r2187 fun x2188 r2189 =>
        un_li r2189 fun x2190 r2191 =>
        un_i r2191 fun x2192 r2193 =>
        un_b r2193 fun x2194 r2195 =>
        un_i r2195 fun x2196 r2197 =>
        un_i r2197 fun x2198 r2199 =>
        un_i r2199 fun x2200 r2201 =>
        un_i r2201 fun x2202 r2203 =>
        un_b r2203 fun x2204 r2205 =>
        un_i r2205 fun x2206 r2207 =>
        un_i r2207 fun x2208 r2209 =>
        un_i r2209 fun x2210 r2211 =>
        un_i r2211 fun x2212 r2213 =>
        un_b r2213 fun x2214 r2215 =>
        un_nil r2215 <|
        br (!x2172 == x2214)
          (kr [.li (ops0), .li (ops1), .li (ops2), .li (ops3), .b (false)])
          (one (addI .i64 i 1) fun x2216 =>
           chk (decide (Int.ofNat (List.length x2190) = Int.ofNat (List.length x2190)) && true && (decide (Int.ofNat (List.length x2148) = Int.ofNat (List.length x2148)) && true && true)) <|
           chk (decide (Int.ofNat (List.length ops0) = Int.ofNat (List.length ops0)) && true) <|
           again (ops0) (ops1) (ops2) (ops3) (x2182) (x2184) (x2186) (x2188) (x2190) (x2140) (x2142) (x2144) (x2146) (x2148) (x2192) (x2194) (x2196) (x2198) (x2200) (x2202) (x2204) (x2206) (x2208) (x2210) (x2212) (x2150) (x2152) (x2154) (x2156) (x2158) (x2160) (x2162) (x2164) (x2166) (x2168) (x2170) (x2216) (by2)))
       (chk (decide (Int.ofNat (List.length b_closed) = Int.ofNat (List.length b_closed)) && true && (decide (Int.ofNat (List.length a_closed) = Int.ofNat (List.length a_closed)) && true && true)) <|
        kx 0 [.li (ops0), .li (ops1), .li (ops2), .li (ops3), .li (b_got_k), .li (b_got_v), .li (b_lost_k), .lb (b_lost_v), .li (b_closed), .li (a_got_k), .li (a_got_v), .li (a_lost_k), .lb (a_lost_v), .li (a_closed), .i (b_r), .b (b_any), .i (b_now), .i (b_first), .i (b_newest), .i (b_count), .b (b_event), .i (b_eventAt), .i (b_eventN), .i (b_bytes), .i (b_since), .i (a_r), .b (a_any), .i (a_now), .i (a_first), .i (a_newest), .i (a_count), .b (a_event), .i (a_eventAt), .i (a_eventN), .i (a_bytes), .i (a_since)]))
    (chk (decide (Int.ofNat (List.length b_closed) = Int.ofNat (List.length b_closed)) && true && (decide (Int.ofNat (List.length a_closed) = Int.ofNat (List.length a_closed)) && true && true)) <|
     kx 0 [.li (ops0), .li (ops1), .li (ops2), .li (ops3), .li (b_got_k), .li (b_got_v), .li (b_lost_k), .lb (b_lost_v), .li (b_closed), .li (a_got_k), .li (a_got_v), .li (a_lost_k), .lb (a_lost_v), .li (a_closed), .i (b_r), .b (b_any), .i (b_now), .i (b_first), .i (b_newest), .i (b_count), .b (b_event), .i (b_eventAt), .i (b_eventN), .i (b_bytes), .i (b_since), .i (a_r), .b (a_any), .i (a_now), .i (a_first), .i (a_newest), .i (a_count), .b (a_event), .i (a_eventAt), .i (a_eventN), .i (a_bytes), .i (a_since)])
def FeedRound_6_L {α : Type} (kx : Nat → List Leaf → Option α) (kr : List Leaf → Option α) : Nat → List Int → List Int → List Int → List Int → List Int → List Int → List Int → List Bool → List Int → List Int → List Int → List Int → List Bool → List Int → Int → Bool → Int → Int → Int → Int → Bool → Int → Int → Int → Int → Int → Bool → Int → Int → Int → Int → Bool → Int → Int → Int → Int → Int → Int → Option α
  | 0, _, _, _, _, _, _, _, _, _, _, _, _, _, _, _, _, _, _, _, _, _, _, _, _, _, _, _, _, _, _, _, _, _, _, _, _, _, _ => none
  | n + 1, ops0, ops1, ops2, ops3, b_got_k, b_got_v, b_lost_k, b_lost_v, b_closed, a_got_k, a_got_v, a_lost_k, a_lost_v, a_closed, b_r, b_any, b_now, b_first, b_newest, b_count, b_event, b_eventAt, b_eventN, b_bytes, b_since, a_r, a_any, a_now, a_first, a_newest, a_count, a_event, a_eventAt, a_eventN, a_bytes, a_since, i, by2 => FeedRound_6_B  kx kr (FeedRound_6_L kx kr n) ops0 ops1 ops2 ops3 b_got_k b_got_v b_lost_k b_lost_v b_closed a_got_k a_got_v a_lost_k a_lost_v a_closed b_r b_any b_now b_first b_newest b_count b_event b_eventAt b_eventN b_bytes b_since a_r a_any a_now a_first a_newest a_count a_event a_eventAt a_eventN a_bytes a_since i by2
def FeedRound_6_F (L6 : ({β : Type} → (Nat → List Leaf → Option β) → (List Leaf → Option β) → Nat → List Int → List Int → List Int → List Int → List Int → List Int → List Int → List Bool → List Int → List Int → List Int → List Int → List Bool → List Int → Int → Bool → Int → Int → Int → Int → Bool → Int → Int → Int → Int → Int → Bool → Int → Int → Int → Int → Bool → Int → Int → Int → Int → Int → Int → Option β)) {α : Type} (n : Nat) (ls : List Leaf) (kx : Nat → List Leaf → Option α) (kr : List Leaf → Option α) : Option α := un_li ls fun ops0 rr => un_li rr fun ops1 rr => un_li rr fun ops2 rr => un_li rr fun ops3 rr => un_li rr fun b_got_k rr => un_li rr fun b_got_v rr => un_li rr fun b_lost_k rr => un_lb rr fun b_lost_v rr => un_li rr fun b_closed rr => un_li rr fun a_got_k rr => un_li rr fun a_got_v rr => un_li rr fun a_lost_k rr => un_lb rr fun a_lost_v rr => un_li rr fun a_closed rr => un_i rr fun b_r rr => un_b rr fun b_any rr => un_i rr fun b_now rr => un_i rr fun b_first rr => un_i rr fun b_newest rr => un_i rr fun b_count rr => un_b rr fun b_event rr => un_i rr fun b_eventAt rr => un_i rr fun b_eventN rr => un_i rr fun b_bytes rr => un_i rr fun b_since rr => un_i rr fun a_r rr => un_b rr fun a_any rr => un_i rr fun a_now rr => un_i rr fun a_first rr => un_i rr fun a_newest rr => un_i rr fun a_count rr => un_b rr fun a_event rr => un_i rr fun a_eventAt rr => un_i rr fun a_eventN rr => un_i rr fun a_bytes rr => un_i rr fun a_since rr => un_i rr fun i rr => un_i rr fun by2 rr => un_nil rr (L6 kx kr n ops0 ops1 ops2 ops3 b_got_k b_got_v b_lost_k b_lost_v b_closed a_got_k a_got_v a_lost_k a_lost_v a_closed b_r b_any b_now b_first b_newest b_count b_event b_eventAt b_eventN b_bytes b_since a_r a_any a_now a_first a_newest a_count a_event a_eventAt a_eventN a_bytes a_since i by2)
def FeedRound_d (L6 : ({β : Type} → (Nat → List Leaf → Option β) → (List Leaf → Option β) → Nat → List Int → List Int → List Int → List Int → List Int → List Int → List Int → List Bool → List Int → List Int → List Int → List Int → List Bool → List Int → Int → Bool → Int → Int → Int → Int → Bool → Int → Int → Int → Int → Int → Bool → Int → Int → Int → Int → Bool → Int → Int → Int → Int → Int → Int → Option β)) (ops0 : List Int) (ops1 : List Int) (ops2 : List Int) (ops3 : List Int) (by2 : Int) : Option (List Leaf) :=
  out (feed_New 1000) fun r2217 =>
  un_li r2217 fun x2218 r2219 =>
  un_li r2219 fun x2220 r2221 =>
  un_li r2221 fun x2222 r2223 =>
  un_lb r2223 fun x2224 r2225 =>
  un_li r2225 fun x2226 r2227 =>
  un_i r2227 fun x2228 r2229 =>
  un_b r2229 fun x2230 r2231 =>
  un_i r2231 fun x2232 r2233 =>
  un_i r2233 fun x2234 r2235 =>
  un_i r2235 fun x2236 r2237 =>
  un_i r2237 fun x2238 r2239 =>
  un_b r2239 fun x2240 r2241 =>
  un_i r2241 fun x2242 r2243 =>
  un_i r2243 fun x2244 r2245 =>
  un_i r2245 fun x2246 r2247 =>
  un_i r2247 fun x2248 r2249 =>
  un_nil r2249 <|
  out (feed_New 1000) fun r2250 =>
  un_li r2250 fun x2251 r2252 =>
  un_li r2252 fun x2253 r2254 =>
  un_li r2254 fun x2255 r2256 =>
  un_lb r2256 fun x2257 r2258 =>
  un_li r2258 fun x2259 r2260 =>
  un_i r2260 fun x2261 r2262 =>
  un_b r2262 fun x2263 r2264 =>
  un_i r2264 fun x2265 r2266 =>
  un_i r2266 fun x2267 r2268 =>
  un_i r2268 fun x2269 r2270 =>
  un_i r2270 fun x2271 r2272 =>
  un_b r2272 fun x2273 r2274 =>
  un_i r2274 fun x2275 r2276 =>
  un_i r2276 fun x2277 r2278 =>
  un_i r2278 fun x2279 r2280 =>
  un_i r2280 fun x2281 r2282 =>
  un_nil r2282 <|
  chk (decide (Int.ofNat (List.length x2259) = Int.ofNat (List.length x2259)) && true && (decide (Int.ofNat (List.length x2226) = Int.ofNat (List.length x2226)) && true && true)) <|
  chk (decide (Int.ofNat (List.length ops0) = Int.ofNat (List.length ops0)) && true) <|
  L6
    (fun i2283 r2284 =>
     br (Nat.beq 0 i2283)
       (un_li r2284 fun x2285 r2286 =>
        un_li r2286 fun x2287 r2288 =>
        un_li r2288 fun x2289 r2290 =>
        un_li r2290 fun x2291 r2292 =>
        un_li r2292 fun x2293 r2294 =>
        un_li r2294 fun x2295 r2296 =>
        un_li r2296 fun x2297 r2298 =>
        un_lb r2298 fun x2299 r2300 =>
        un_li r2300 fun x2301 r2302 =>
        un_li r2302 fun x2303 r2304 =>
        un_li r2304 fun x2305 r2306 =>
        un_li r2306 fun x2307 r2308 =>
        un_lb r2308 fun x2309 r2310 =>
        un_li r2310 fun x2311 r2312 =>
        un_i r2312 fun x2313 r2314 =>
        un_b r2314 fun x2315 r2316 =>
        un_i r2316 fun x2317 r2318 =>
        un_i r2318 fun x2319 r2320 =>
        un_i r2320 fun x2321 r2322 =>
        un_i r2322 fun x2323 r2324 =>
        un_b r2324 fun x2325 r2326 =>
        un_i r2326 fun x2327 r2328 =>
        un_i r2328 fun x2329 r2330 =>
        un_i r2330 fun x2331 r2332 =>
        un_i r2332 fun x2333 r2334 =>
        un_i r2334 fun x2335 r2336 =>
        un_b r2336 fun x2337 r2338 =>
        un_i r2338 fun x2339 r2340 =>
        un_i r2340 fun x2341 r2342 =>
        un_i r2342 fun x2343 r2344 =>
        un_i r2344 fun x2345 r2346 =>
        un_b r2346 fun x2347 r2348 =>
        un_i r2348 fun x2349 r2350 =>
        un_i r2350 fun x2351 r2352 =>
        un_i r2352 fun x2353 r2354 =>
        un_i r2354 fun x2355 r2356 =>
        un_nil r2356 <|
        br (!x2347)
          (br (!x2325)
             (chk (decide ((0 : Int) = Int.ofNat (0 : Nat)) && (decide ((0 : Int) = Int.ofNat (0 : Nat)) && true)) <|
              out (law_same [] []) fun r2357 =>
              un_b r2357 fun x2358 r2359 =>
              un_nil r2359 <|
              br (x2358)
                (chk (decide (Int.ofNat (List.length x2311) = Int.ofNat (List.length x2311)) && true && true) <|
                 out (feed_Lost x2303 x2305 x2307 x2309 x2311 x2335 x2337 x2339 x2341 x2343 x2345 x2347 x2349 x2351 x2353 x2355) fun r2360 =>
                 un_i r2360 fun x2361 r2362 =>
                 un_nil r2362 <|
                 chk (decide (Int.ofNat (List.length x2301) = Int.ofNat (List.length x2301)) && true && true) <|
                 out (feed_Lost x2293 x2295 x2297 x2299 x2301 x2313 x2315 x2317 x2319 x2321 x2323 x2325 x2327 x2329 x2331 x2333) fun r2363 =>
                 un_i r2363 fun x2364 r2365 =>
                 un_nil r2365 <|
                 br (x2361 == x2364)
                   (br (!x2347)
                      (one (0) fun x2400 =>
                       one (0) fun x2399 =>
                       one (minI 0 8) fun x2366 =>
                       chk (condSl 0 Option.none (Option.some x2366)) <|
                       out (ival_Weight 0) fun r2367 =>
                       un_i r2367 fun x2368 r2369 =>
                       un_nil r2369 <|
                       out (fix_Mul 0 x2368) fun r2370 =>
                       un_i r2370 fun x2371 r2372 =>
                       un_nil r2372 <|
                       one (0) fun x2398 =>
                       one (maxI x2371 0) fun x2373 =>
                       one (0) fun x2397 =>
                       one (x2373) fun x2374 =>
                       br (!x2325)
                         (one (0) fun x2387 =>
                          one (0) fun x2386 =>
                          one (minI 0 8) fun x2375 =>
                          chk (condSl 0 Option.none (Option.some x2375)) <|
                          out (ival_Weight 0) fun r2376 =>
                          un_i r2376 fun x2377 r2378 =>
                          un_nil r2378 <|
                          out (fix_Mul 0 x2377) fun r2379 =>
                          un_i r2379 fun x2380 r2381 =>
                          un_nil r2381 <|
                          one (0) fun x2385 =>
                          one (maxI x2380 0) fun x2382 =>
                          one (0) fun x2384 =>
                          one (x2382) fun x2383 =>
                          some [.b (0 == 0)])
                         (out (seq_Diff x2321 x2329) fun r2388 =>
                          un_i r2388 fun x2389 r2390 =>
                          un_nil r2390 <|
                          one (maxI x2389 0) fun x2391 =>
                          one (wrapI .u64 x2391) fun x2392 =>
                          chk (decide (Int.ofNat (List.length x2301) = Int.ofNat (List.length x2301)) && decide (Int.ofNat (List.length x2301) * (↑(nat_lit 8) : Int) ≤ (140737488355328 : Int) ∧ Int.ofNat (List.length x2301) ≤ (4611686018427387904 : Int))) <|
                          chk (decide (Int.ofNat (List.length x2301) = Int.ofNat (List.length x2301)) && decide (Int.ofNat (List.length x2301) * (↑(nat_lit 8) : Int) ≤ (140737488355328 : Int) ∧ Int.ofNat (List.length x2301) ≤ (4611686018427387904 : Int))) <|
                          one (x2392) fun x2393 =>
                          chk (decide (Int.ofNat (List.length x2301) = Int.ofNat (List.length x2301)) && true) <|
                          out (ival_Rate x2301 x2393) fun r2394 =>
                          un_i r2394 fun x2395 r2396 =>
                          un_nil r2396 <|
                          some [.b (0 == x2395)]))
                      (out (seq_Diff x2343 x2351) fun r2401 =>
                       un_i r2401 fun x2402 r2403 =>
                       un_nil r2403 <|
                       one (maxI x2402 0) fun x2404 =>
                       one (wrapI .u64 x2404) fun x2405 =>
                       chk (decide (Int.ofNat (List.length x2311) = Int.ofNat (List.length x2311)) && decide (Int.ofNat (List.length x2311) * (↑(nat_lit 8) : Int) ≤ (140737488355328 : Int) ∧ Int.ofNat (List.length x2311) ≤ (4611686018427387904 : Int))) <|
                       chk (decide (Int.ofNat (List.length x2311) = Int.ofNat (List.length x2311)) && decide (Int.ofNat (List.length x2311) * (↑(nat_lit 8) : Int) ≤ (140737488355328 : Int) ∧ Int.ofNat (List.length x2311) ≤ (4611686018427387904 : Int))) <|
                       one (x2405) fun x2406 =>
                       chk (decide (Int.ofNat (List.length x2311) = Int.ofNat (List.length x2311)) && true) <|
                       out (ival_Rate x2311 x2406) fun r2407 =>
                       un_i r2407 fun x2408 r2409 =>
                       un_nil r2409 <|
                       br (!x2325)
                         (one (0) fun x2422 =>
                          one (0) fun x2421 =>
                          one (minI 0 8) fun x2410 =>
                          chk (condSl 0 Option.none (Option.some x2410)) <|
                          out (ival_Weight 0) fun r2411 =>
                          un_i r2411 fun x2412 r2413 =>
                          un_nil r2413 <|
                          out (fix_Mul 0 x2412) fun r2414 =>
                          un_i r2414 fun x2415 r2416 =>
                          un_nil r2416 <|
                          one (0) fun x2420 =>
                          one (maxI x2415 0) fun x2417 =>
                          one (0) fun x2419 =>
                          one (x2417) fun x2418 =>
                          some [.b (x2408 == 0)])
                         (out (seq_Diff x2321 x2329) fun r2423 =>
                          un_i r2423 fun x2424 r2425 =>
                          un_nil r2425 <|
                          one (maxI x2424 0) fun x2426 =>
                          one (wrapI .u64 x2426) fun x2427 =>
                          chk (decide (Int.ofNat (List.length x2301) = Int.ofNat (List.length x2301)) && decide (Int.ofNat (List.length x2301) * (↑(nat_lit 8) : Int) ≤ (140737488355328 : Int) ∧ Int.ofNat (List.length x2301) ≤ (4611686018427387904 : Int))) <|
                          chk (decide (Int.ofNat (List.length x2301) = Int.ofNat (List.length x2301)) && decide (Int.ofNat (List.length x2301) * (↑(nat_lit 8) : Int) ≤ (140737488355328 : Int) ∧ Int.ofNat (List.length x2301) ≤ (4611686018427387904 : Int))) <|
                          one (x2427) fun x2428 =>
                          chk (decide (Int.ofNat (List.length x2301) = Int.ofNat (List.length x2301)) && true) <|
                          out (ival_Rate x2301 x2428) fun r2429 =>
                          un_i r2429 fun x2430 r2431 =>
                          un_nil r2431 <|
                          some [.b (x2408 == x2430)])))
                   (some [.b (false)]))
                (some [.b (false)]))
             (out (seq_Diff x2321 x2329) fun r2432 =>
              un_i r2432 fun x2433 r2434 =>
              un_nil r2434 <|
              one (maxI x2433 0) fun x2435 =>
              one (wrapI .u64 x2435) fun x2436 =>
              chk (decide (Int.ofNat (List.length x2301) = Int.ofNat (List.length x2301)) && decide (Int.ofNat (List.length x2301) * (↑(nat_lit 8) : Int) ≤ (140737488355328 : Int) ∧ Int.ofNat (List.length x2301) ≤ (4611686018427387904 : Int))) <|
              chk (decide (Int.ofNat (List.length x2301) = Int.ofNat (List.length x2301)) && decide (Int.ofNat (List.length x2301) * (↑(nat_lit 8) : Int) ≤ (140737488355328 : Int) ∧ Int.ofNat (List.length x2301) ≤ (4611686018427387904 : Int))) <|
              one (x2436) fun x2437 =>
              br (0 == x2437)
                (chk (decide ((0 : Int) = Int.ofNat (0 : Nat)) && (decide (Int.ofNat (List.length x2301) = Int.ofNat (List.length x2301)) && true)) <|
                 out (law_same [] x2301) fun r2438 =>
                 un_b r2438 fun x2439 r2440 =>
                 un_nil r2440 <|
                 br (x2439)
                   (chk (decide (Int.ofNat (List.length x2311) = Int.ofNat (List.length x2311)) && true && true) <|
                    out (feed_Lost x2303 x2305 x2307 x2309 x2311 x2335 x2337 x2339 x2341 x2343 x2345 x2347 x2349 x2351 x2353 x2355) fun r2441 =>
                    un_i r2441 fun x2442 r2443 =>
                    un_nil r2443 <|
                    chk (decide (Int.ofNat (List.length x2301) = Int.ofNat (List.length x2301)) && true && true) <|
                    out (feed_Lost x2293 x2295 x2297 x2299 x2301 x2313 x2315 x2317 x2319 x2321 x2323 x2325 x2327 x2329 x2331 x2333) fun r2444 =>
                    un_i r2444 fun x2445 r2446 =>
                    un_nil r2446 <|
                    br (x2442 == x2445)
                      (br (!x2347)
                         (one (0) fun x2481 =>
                          one (0) fun x2480 =>
                          one (minI 0 8) fun x2447 =>
                          chk (condSl 0 Option.none (Option.some x2447)) <|
                          out (ival_Weight 0) fun r2448 =>
                          un_i r2448 fun x2449 r2450 =>
                          un_nil r2450 <|
                          out (fix_Mul 0 x2449) fun r2451 =>
                          un_i r2451 fun x2452 r2453 =>
                          un_nil r2453 <|
                          one (0) fun x2479 =>
                          one (maxI x2452 0) fun x2454 =>
                          one (0) fun x2478 =>
                          one (x2454) fun x2455 =>
                          br (!x2325)
                            (one (0) fun x2468 =>
                             one (0) fun x2467 =>
                             one (minI 0 8) fun x2456 =>
                             chk (condSl 0 Option.none (Option.some x2456)) <|
                             out (ival_Weight 0) fun r2457 =>
                             un_i r2457 fun x2458 r2459 =>
                             un_nil r2459 <|
                             out (fix_Mul 0 x2458) fun r2460 =>
                             un_i r2460 fun x2461 r2462 =>
                             un_nil r2462 <|
                             one (0) fun x2466 =>
                             one (maxI x2461 0) fun x2463 =>
                             one (0) fun x2465 =>
                             one (x2463) fun x2464 =>
                             some [.b (0 == 0)])
                            (out (seq_Diff x2321 x2329) fun r2469 =>
                             un_i r2469 fun x2470 r2471 =>
                             un_nil r2471 <|
                             one (maxI x2470 0) fun x2472 =>
                             one (wrapI .u64 x2472) fun x2473 =>
                             chk (decide (Int.ofNat (List.length x2301) = Int.ofNat (List.length x2301)) && decide (Int.ofNat (List.length x2301) * (↑(nat_lit 8) : Int) ≤ (140737488355328 : Int) ∧ Int.ofNat (List.length x2301) ≤ (4611686018427387904 : Int))) <|
                             chk (decide (Int.ofNat (List.length x2301) = Int.ofNat (List.length x2301)) && decide (Int.ofNat (List.length x2301) * (↑(nat_lit 8) : Int) ≤ (140737488355328 : Int) ∧ Int.ofNat (List.length x2301) ≤ (4611686018427387904 : Int))) <|
                             one (x2473) fun x2474 =>
                             chk (decide (Int.ofNat (List.length x2301) = Int.ofNat (List.length x2301)) && true) <|
                             out (ival_Rate x2301 x2474) fun r2475 =>
                             un_i r2475 fun x2476 r2477 =>
                             un_nil r2477 <|
                             some [.b (0 == x2476)]))
                         (out (seq_Diff x2343 x2351) fun r2482 =>
                          un_i r2482 fun x2483 r2484 =>
                          un_nil r2484 <|
                          one (maxI x2483 0) fun x2485 =>
                          one (wrapI .u64 x2485) fun x2486 =>
                          chk (decide (Int.ofNat (List.length x2311) = Int.ofNat (List.length x2311)) && decide (Int.ofNat (List.length x2311) * (↑(nat_lit 8) : Int) ≤ (140737488355328 : Int) ∧ Int.ofNat (List.length x2311) ≤ (4611686018427387904 : Int))) <|
                          chk (decide (Int.ofNat (List.length x2311) = Int.ofNat (List.length x2311)) && decide (Int.ofNat (List.length x2311) * (↑(nat_lit 8) : Int) ≤ (140737488355328 : Int) ∧ Int.ofNat (List.length x2311) ≤ (4611686018427387904 : Int))) <|
                          one (x2486) fun x2487 =>
                          chk (decide (Int.ofNat (List.length x2311) = Int.ofNat (List.length x2311)) && true) <|
                          out (ival_Rate x2311 x2487) fun r2488 =>
                          un_i r2488 fun x2489 r2490 =>
                          un_nil r2490 <|
                          br (!x2325)
                            (one (0) fun x2503 =>
                             one (0) fun x2502 =>
                             one (minI 0 8) fun x2491 =>
                             chk (condSl 0 Option.none (Option.some x2491)) <|
                             out (ival_Weight 0) fun r2492 =>
                             un_i r2492 fun x2493 r2494 =>
                             un_nil r2494 <|
                             out (fix_Mul 0 x2493) fun r2495 =>
                             un_i r2495 fun x2496 r2497 =>
                             un_nil r2497 <|
                             one (0) fun x2501 =>
                             one (maxI x2496 0) fun x2498 =>
                             one (0) fun x2500 =>
                             one (x2498) fun x2499 =>
                             some [.b (x2489 == 0)])
                            (out (seq_Diff x2321 x2329) fun r2504 =>
                             un_i r2504 fun x2505 r2506 =>
                             un_nil r2506 <|
                             one (maxI x2505 0) fun x2507 =>
                             one (wrapI .u64 x2507) fun x2508 =>
                             chk (decide (Int.ofNat (List.length x2301) = Int.ofNat (List.length x2301)) && decide (Int.ofNat (List.length x2301) * (↑(nat_lit 8) : Int) ≤ (140737488355328 : Int) ∧ Int.ofNat (List.length x2301) ≤ (4611686018427387904 : Int))) <|
                             chk (decide (Int.ofNat (List.length x2301) = Int.ofNat (List.length x2301)) && decide (Int.ofNat (List.length x2301) * (↑(nat_lit 8) : Int) ≤ (140737488355328 : Int) ∧ Int.ofNat (List.length x2301) ≤ (4611686018427387904 : Int))) <|
                             one (x2508) fun x2509 =>
                             chk (decide (Int.ofNat (List.length x2301) = Int.ofNat (List.length x2301)) && true) <|
                             out (ival_Rate x2301 x2509) fun r2510 =>
                             un_i r2510 fun x2511 r2512 =>
                             un_nil r2512 <|
                             some [.b (x2489 == x2511)])))
                      (some [.b (false)]))
                   (some [.b (false)]))
                (some [.b (false)])))
          (out (seq_Diff x2343 x2351) fun r2513 =>
           un_i r2513 fun x2514 r2515 =>
           un_nil r2515 <|
           one (maxI x2514 0) fun x2516 =>
           one (wrapI .u64 x2516) fun x2517 =>
           chk (decide (Int.ofNat (List.length x2311) = Int.ofNat (List.length x2311)) && decide (Int.ofNat (List.length x2311) * (↑(nat_lit 8) : Int) ≤ (140737488355328 : Int) ∧ Int.ofNat (List.length x2311) ≤ (4611686018427387904 : Int))) <|
           chk (decide (Int.ofNat (List.length x2311) = Int.ofNat (List.length x2311)) && decide (Int.ofNat (List.length x2311) * (↑(nat_lit 8) : Int) ≤ (140737488355328 : Int) ∧ Int.ofNat (List.length x2311) ≤ (4611686018427387904 : Int))) <|
           one (x2517) fun x2518 =>
           br (!x2325)
             (br (x2518 == 0)
                (chk (decide (Int.ofNat (List.length x2311) = Int.ofNat (List.length x2311)) && (decide ((0 : Int) = Int.ofNat (0 : Nat)) && true)) <|
                 out (law_same x2311 []) fun r2519 =>
                 un_b r2519 fun x2520 r2521 =>
                 un_nil r2521 <|
                 br (x2520)
                   (chk (decide (Int.ofNat (List.length x2311) = Int.ofNat (List.length x2311)) && true && true) <|
                    out (feed_Lost x2303 x2305 x2307 x2309 x2311 x2335 x2337 x2339 x2341 x2343 x2345 x2347 x2349 x2351 x2353 x2355) fun r2522 =>
                    un_i r2522 fun x2523 r2524 =>
                    un_nil r2524 <|
                    chk (decide (Int.ofNat (List.length x2301) = Int.ofNat (List.length x2301)) && true && true) <|
                    out (feed_Lost x2293 x2295 x2297 x2299 x2301 x2313 x2315 x2317 x2319 x2321 x2323 x2325 x2327 x2329 x2331 x2333) fun r2525 =>
                    un_i r2525 fun x2526 r2527 =>
                    un_nil r2527 <|
                    br (x2523 == x2526)
                      (br (!x2347)
                         (one (0) fun x2562 =>
                          one (0) fun x2561 =>
                          one (minI 0 8) fun x2528 =>
                          chk (condSl 0 Option.none (Option.some x2528)) <|
                          out (ival_Weight 0) fun r2529 =>
                          un_i r2529 fun x2530 r2531 =>
                          un_nil r2531 <|
                          out (fix_Mul 0 x2530) fun r2532 =>
                          un_i r2532 fun x2533 r2534 =>
                          un_nil r2534 <|
                          one (0) fun x2560 =>
                          one (maxI x2533 0) fun x2535 =>
                          one (0) fun x2559 =>
                          one (x2535) fun x2536 =>
                          br (!x2325)
                            (one (0) fun x2549 =>
                             one (0) fun x2548 =>
                             one (minI 0 8) fun x2537 =>
                             chk (condSl 0 Option.none (Option.some x2537)) <|
                             out (ival_Weight 0) fun r2538 =>
                             un_i r2538 fun x2539 r2540 =>
                             un_nil r2540 <|
                             out (fix_Mul 0 x2539) fun r2541 =>
                             un_i r2541 fun x2542 r2543 =>
                             un_nil r2543 <|
                             one (0) fun x2547 =>
                             one (maxI x2542 0) fun x2544 =>
                             one (0) fun x2546 =>
                             one (x2544) fun x2545 =>
                             some [.b (0 == 0)])
                            (out (seq_Diff x2321 x2329) fun r2550 =>
                             un_i r2550 fun x2551 r2552 =>
                             un_nil r2552 <|
                             one (maxI x2551 0) fun x2553 =>
                             one (wrapI .u64 x2553) fun x2554 =>
                             chk (decide (Int.ofNat (List.length x2301) = Int.ofNat (List.length x2301)) && decide (Int.ofNat (List.length x2301) * (↑(nat_lit 8) : Int) ≤ (140737488355328 : Int) ∧ Int.ofNat (List.length x2301) ≤ (4611686018427387904 : Int))) <|
                             chk (decide (Int.ofNat (List.length x2301) = Int.ofNat (List.length x2301)) && decide (Int.ofNat (List.length x2301) * (↑(nat_lit 8) : Int) ≤ (140737488355328 : Int) ∧ Int.ofNat (List.length x2301) ≤ (4611686018427387904 : Int))) <|
                             one (x2554) fun x2555 =>
                             chk (decide (Int.ofNat (List.length x2301) = Int.ofNat (List.length x2301)) && true) <|
                             out (ival_Rate x2301 x2555) fun r2556 =>
                             un_i r2556 fun x2557 r2558 =>
                             un_nil r2558 <|
                             some [.b (0 == x2557)]))
                         (out (seq_Diff x2343 x2351) fun r2563 =>
                          un_i r2563 fun x2564 r2565 =>
                          un_nil r2565 <|
                          one (maxI x2564 0) fun x2566 =>
                          one (wrapI .u64 x2566) fun x2567 =>
                          chk (decide (Int.ofNat (List.length x2311) = Int.ofNat (List.length x2311)) && decide (Int.ofNat (List.length x2311) * (↑(nat_lit 8) : Int) ≤ (140737488355328 : Int) ∧ Int.ofNat (List.length x2311) ≤ (4611686018427387904 : Int))) <|
                          chk (decide (Int.ofNat (List.length x2311) = Int.ofNat (List.length x2311)) && decide (Int.ofNat (List.length x2311) * (↑(nat_lit 8) : Int) ≤ (140737488355328 : Int) ∧ Int.ofNat (List.length x2311) ≤ (4611686018427387904 : Int))) <|
                          one (x2567) fun x2568 =>
                          chk (decide (Int.ofNat (List.length x2311) = Int.ofNat (List.length x2311)) && true) <|
                          out (ival_Rate x2311 x2568) fun r2569 =>
                          un_i r2569 fun x2570 r2571 =>
                          un_nil r2571 <|
                          br (!x2325)
                            (one (0) fun x2584 =>
                             one (0) fun x2583 =>
                             one (minI 0 8) fun x2572 =>
                             chk (condSl 0 Option.none (Option.some x2572)) <|
                             out (ival_Weight 0) fun r2573 =>
                             un_i r2573 fun x2574 r2575 =>
                             un_nil r2575 <|
                             out (fix_Mul 0 x2574) fun r2576 =>
                             un_i r2576 fun x2577 r2578 =>
                             un_nil r2578 <|
                             one (0) fun x2582 =>
                             one (maxI x2577 0) fun x2579 =>
                             one (0) fun x2581 =>
                             one (x2579) fun x2580 =>
                             some [.b (x2570 == 0)])
                            (out (seq_Diff x2321 x2329) fun r2585 =>
                             un_i r2585 fun x2586 r2587 =>
                             un_nil r2587 <|
                             one (maxI x2586 0) fun x2588 =>
                             one (wrapI .u64 x2588) fun x2589 =>
                             chk (decide (Int.ofNat (List.length x2301) = Int.ofNat (List.length x2301)) && decide (Int.ofNat (List.length x2301) * (↑(nat_lit 8) : Int) ≤ (140737488355328 : Int) ∧ Int.ofNat (List.length x2301) ≤ (4611686018427387904 : Int))) <|
                             chk (decide (Int.ofNat (List.length x2301) = Int.ofNat (List.length x2301)) && decide (Int.ofNat (List.length x2301) * (↑(nat_lit 8) : Int) ≤ (140737488355328 : Int) ∧ Int.ofNat (List.length x2301) ≤ (4611686018427387904 : Int))) <|
                             one (x2589) fun x2590 =>
                             chk (decide (Int.ofNat (List.length x2301) = Int.ofNat (List.length x2301)) && true) <|
                             out (ival_Rate x2301 x2590) fun r2591 =>
                             un_i r2591 fun x2592 r2593 =>
                             un_nil r2593 <|
                             some [.b (x2570 == x2592)])))
                      (some [.b (false)]))
                   (some [.b (false)]))
                (some [.b (false)]))
             (out (seq_Diff x2321 x2329) fun r2594 =>
              un_i r2594 fun x2595 r2596 =>
              un_nil r2596 <|
              one (maxI x2595 0) fun x2597 =>
              one (wrapI .u64 x2597) fun x2598 =>
              chk (decide (Int.ofNat (List.length x2301) = Int.ofNat (List.length x2301)) && decide (Int.ofNat (List.length x2301) * (↑(nat_lit 8) : Int) ≤ (140737488355328 : Int) ∧ Int.ofNat (List.length x2301) ≤ (4611686018427387904 : Int))) <|
              chk (decide (Int.ofNat (List.length x2301) = Int.ofNat (List.length x2301)) && decide (Int.ofNat (List.length x2301) * (↑(nat_lit 8) : Int) ≤ (140737488355328 : Int) ∧ Int.ofNat (List.length x2301) ≤ (4611686018427387904 : Int))) <|
              one (x2598) fun x2599 =>
              br (x2518 == x2599)
                (chk (decide (Int.ofNat (List.length x2311) = Int.ofNat (List.length x2311)) && (decide (Int.ofNat (List.length x2301) = Int.ofNat (List.length x2301)) && true)) <|
                 out (law_same x2311 x2301) fun r2600 =>
                 un_b r2600 fun x2601 r2602 =>
                 un_nil r2602 <|
                 br (x2601)
                   (chk (decide (Int.ofNat (List.length x2311) = Int.ofNat (List.length x2311)) && true && true) <|
                    out (feed_Lost x2303 x2305 x2307 x2309 x2311 x2335 x2337 x2339 x2341 x2343 x2345 x2347 x2349 x2351 x2353 x2355) fun r2603 =>
                    un_i r2603 fun x2604 r2605 =>
                    un_nil r2605 <|
                    chk (decide (Int.ofNat (List.length x2301) = Int.ofNat (List.length x2301)) && true && true) <|
                    out (feed_Lost x2293 x2295 x2297 x2299 x2301 x2313 x2315 x2317 x2319 x2321 x2323 x2325 x2327 x2329 x2331 x2333) fun r2606 =>
                    un_i r2606 fun x2607 r2608 =>
                    un_nil r2608 <|
                    br (x2604 == x2607)
                      (br (!x2347)
                         (one (0) fun x2643 =>
                          one (0) fun x2642 =>
                          one (minI 0 8) fun x2609 =>
                          chk (condSl 0 Option.none (Option.some x2609)) <|
                          out (ival_Weight 0) fun r2610 =>
                          un_i r2610 fun x2611 r2612 =>
                          un_nil r2612 <|
                          out (fix_Mul 0 x2611) fun r2613 =>
                          un_i r2613 fun x2614 r2615 =>
                          un_nil r2615 <|
                          one (0) fun x2641 =>
                          one (maxI x2614 0) fun x2616 =>
                          one (0) fun x2640 =>
                          one (x2616) fun x2617 =>
                          br (!x2325)
                            (one (0) fun x2630 =>
                             one (0) fun x2629 =>
                             one (minI 0 8) fun x2618 =>
                             chk (condSl 0 Option.none (Option.some x2618)) <|
                             out (ival_Weight 0) fun r2619 =>
                             un_i r2619 fun x2620 r2621 =>
                             un_nil r2621 <|
                             out (fix_Mul 0 x2620) fun r2622 =>
                             un_i r2622 fun x2623 r2624 =>
                             un_nil r2624 <|
                             one (0) fun x2628 =>
                             one (maxI x2623 0) fun x2625 =>
                             one (0) fun x2627 =>
                             one (x2625) fun x2626 =>
                             some [.b (0 == 0)])
                            (out (seq_Diff x2321 x2329) fun r2631 =>
                             un_i r2631 fun x2632 r2633 =>
                             un_nil r2633 <|
                             one (maxI x2632 0) fun x2634 =>
                             one (wrapI .u64 x2634) fun x2635 =>
                             chk (decide (Int.ofNat (List.length x2301) = Int.ofNat (List.length x2301)) && decide (Int.ofNat (List.length x2301) * (↑(nat_lit 8) : Int) ≤ (140737488355328 : Int) ∧ Int.ofNat (List.length x2301) ≤ (4611686018427387904 : Int))) <|
                             chk (decide (Int.ofNat (List.length x2301) = Int.ofNat (List.length x2301)) && decide (Int.ofNat (List.length x2301) * (↑(nat_lit 8) : Int) ≤ (140737488355328 : Int) ∧ Int.ofNat (List.length x2301) ≤ (4611686018427387904 : Int))) <|
                             one (x2635) fun x2636 =>
                             chk (decide (Int.ofNat (List.length x2301) = Int.ofNat (List.length x2301)) && true) <|
                             out (ival_Rate x2301 x2636) fun r2637 =>
                             un_i r2637 fun x2638 r2639 =>
                             un_nil r2639 <|
                             some [.b (0 == x2638)]))
                         (out (seq_Diff x2343 x2351) fun r2644 =>
                          un_i r2644 fun x2645 r2646 =>
                          un_nil r2646 <|
                          one (maxI x2645 0) fun x2647 =>
                          one (wrapI .u64 x2647) fun x2648 =>
                          chk (decide (Int.ofNat (List.length x2311) = Int.ofNat (List.length x2311)) && decide (Int.ofNat (List.length x2311) * (↑(nat_lit 8) : Int) ≤ (140737488355328 : Int) ∧ Int.ofNat (List.length x2311) ≤ (4611686018427387904 : Int))) <|
                          chk (decide (Int.ofNat (List.length x2311) = Int.ofNat (List.length x2311)) && decide (Int.ofNat (List.length x2311) * (↑(nat_lit 8) : Int) ≤ (140737488355328 : Int) ∧ Int.ofNat (List.length x2311) ≤ (4611686018427387904 : Int))) <|
                          one (x2648) fun x2649 =>
                          chk (decide (Int.ofNat (List.length x2311) = Int.ofNat (List.length x2311)) && true) <|
                          out (ival_Rate x2311 x2649) fun r2650 =>
                          un_i r2650 fun x2651 r2652 =>
                          un_nil r2652 <|
                          br (!x2325)
                            (one (0) fun x2665 =>
                             one (0) fun x2664 =>
                             one (minI 0 8) fun x2653 =>
                             chk (condSl 0 Option.none (Option.some x2653)) <|
                             out (ival_Weight 0) fun r2654 =>
                             un_i r2654 fun x2655 r2656 =>
                             un_nil r2656 <|
                             out (fix_Mul 0 x2655) fun r2657 =>
                             un_i r2657 fun x2658 r2659 =>
                             un_nil r2659 <|
                             one (0) fun x2663 =>
                             one (maxI x2658 0) fun x2660 =>
                             one (0) fun x2662 =>
                             one (x2660) fun x2661 =>
                             some [.b (x2651 == 0)])
                            (out (seq_Diff x2321 x2329) fun r2666 =>
                             un_i r2666 fun x2667 r2668 =>
                             un_nil r2668 <|
                             one (maxI x2667 0) fun x2669 =>
                             one (wrapI .u64 x2669) fun x2670 =>
                             chk (decide (Int.ofNat (List.length x2301) = Int.ofNat (List.length x2301)) && decide (Int.ofNat (List.length x2301) * (↑(nat_lit 8) : Int) ≤ (140737488355328 : Int) ∧ Int.ofNat (List.length x2301) ≤ (4611686018427387904 : Int))) <|
                             chk (decide (Int.ofNat (List.length x2301) = Int.ofNat (List.length x2301)) && decide (Int.ofNat (List.length x2301) * (↑(nat_lit 8) : Int) ≤ (140737488355328 : Int) ∧ Int.ofNat (List.length x2301) ≤ (4611686018427387904 : Int))) <|
                             one (x2670) fun x2671 =>
                             chk (decide (Int.ofNat (List.length x2301) = Int.ofNat (List.length x2301)) && true) <|
                             out (ival_Rate x2301 x2671) fun r2672 =>
                             un_i r2672 fun x2673 r2674 =>
                             un_nil r2674 <|
                             some [.b (x2651 == x2673)])))
                      (some [.b (false)]))
                   (some [.b (false)]))
                (some [.b (false)]))))
       (none))
    (fun r2675 =>
     un_li r2675 fun x2676 r2677 =>
     un_li r2677 fun x2678 r2679 =>
     un_li r2679 fun x2680 r2681 =>
     un_li r2681 fun x2682 r2683 =>
     un_b r2683 fun x2684 r2685 =>
     un_nil r2685 <|
     some [.b (x2684)])
    top (ops0) (ops1) (ops2) (ops3) (x2251) (x2253) (x2255) (x2257) (x2259) (x2218) (x2220) (x2222) (x2224) (x2226) (x2261) (x2263) (x2265) (x2267) (x2269) (x2271) (x2273) (x2275) (x2277) (x2279) (x2281) (x2228) (x2230) (x2232) (x2234) (x2236) (x2238) (x2240) (x2242) (x2244) (x2246) (x2248) (0) (by2)
def FeedRound (ops0 : List Int) (ops1 : List Int) (ops2 : List Int) (ops3 : List Int) (by2 : Int) : Option (List Leaf) := FeedRound_d @FeedRound_6_L ops0 ops1 ops2 ops3 by2
end Go.Sx.T

