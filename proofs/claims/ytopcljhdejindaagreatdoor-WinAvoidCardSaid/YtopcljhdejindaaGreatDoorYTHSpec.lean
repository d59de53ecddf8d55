import Derived.Test.YtopcljhdejindaaGreatDoorYTfrcSpec
set_option linter.all false
namespace Go.Sx.T
open Go Go.Sx
def TfrcHalves_10_B  {α : Type} (kx : Nat → List Leaf → Option α) (kr : List Leaf → Option α) (again : List Int → List Int → Int → Int → Int → Int → Bool → Int → Bool → Bool → Int → Int → Int → Int → Option α) (t_set_l0 : List Int) (t_set_l1 : List Int) (t_s : Int) (t_x : Int) (t_loss : Int) (t_rtt : Int) (t_heard : Bool) (t_doubled : Int) (t_began : Bool) (t_started : Bool) (t_due : Int) (size : Int) (i : Int) (now : Int) : Option α :=
  br (decide (i < 70))
    (chk (decide (Int.ofNat (List.length t_set_l0) = Int.ofNat (List.length t_set_l0)) && true && true) <|
     out (tfrc_Rate t_set_l0 t_set_l1 t_s t_x t_loss t_rtt t_heard t_doubled t_began t_started t_due) fun r2131 =>
     un_i r2131 fun x2132 r2133 =>
     un_nil r2133 <|
     chk (decide (Int.ofNat (List.length t_set_l0) = Int.ofNat (List.length t_set_l0)) && true && true) <|
     out (tfrc_Due t_set_l0 t_set_l1 t_s t_x t_loss t_rtt t_heard t_doubled t_began t_started t_due) fun r2134 =>
     un_i r2134 fun x2135 r2136 =>
     un_b r2136 fun x2137 r2138 =>
     un_nil r2138 <|
     br (!x2137)
       (chk (decide (Int.ofNat (List.length t_set_l0) = Int.ofNat (List.length t_set_l0)) && true && true) <|
        kx 0 [.li (t_set_l0), .li (t_set_l1), .i (t_s), .i (t_x), .i (t_loss), .i (t_rtt), .b (t_heard), .i (t_doubled), .b (t_began), .b (t_started), .i (t_due), .i (size)])
       (br (decide (x2135 ≤ now))
          (kr [.b (false)])
          (one (subI .i64 x2135 1) fun x2139 =>
           chk (decide (Int.ofNat (List.length t_set_l0) = Int.ofNat (List.length t_set_l0)) && true && true) <|
           out (tfrc_Fire t_set_l0 t_set_l1 t_s t_x t_loss t_rtt t_heard t_doubled t_began t_started t_due x2139) fun r2140 =>
           un_li r2140 fun x2141 r2142 =>
           un_li r2142 fun x2143 r2144 =>
           un_i r2144 fun x2145 r2146 =>
           un_i r2146 fun x2147 r2148 =>
           un_i r2148 fun x2149 r2150 =>
           un_i r2150 fun x2151 r2152 =>
           un_b r2152 fun x2153 r2154 =>
           un_i r2154 fun x2155 r2156 =>
           un_b r2156 fun x2157 r2158 =>
           un_b r2158 fun x2159 r2160 =>
           un_i r2160 fun x2161 r2162 =>
           un_b r2162 fun x2163 r2164 =>
           un_nil r2164 <|
           br (x2163)
             (kr [.b (false)])
             (chk (decide (Int.ofNat (List.length x2141) = Int.ofNat (List.length x2141)) && true && true) <|
              out (tfrc_Fire x2141 x2143 x2145 x2147 x2149 x2151 x2153 x2155 x2157 x2159 x2161 x2135) fun r2165 =>
              un_li r2165 fun x2166 r2167 =>
              un_li r2167 fun x2168 r2169 =>
              un_i r2169 fun x2170 r2171 =>
              un_i r2171 fun x2172 r2173 =>
              un_i r2173 fun x2174 r2175 =>
              un_i r2175 fun x2176 r2177 =>
              un_b r2177 fun x2178 r2179 =>
              un_i r2179 fun x2180 r2181 =>
              un_b r2181 fun x2182 r2183 =>
              un_b r2183 fun x2184 r2185 =>
              un_i r2185 fun x2186 r2187 =>
              un_b r2187 fun x2188 r2189 =>
              un_nil r2189 <|
              br (!x2188)
                (kr [.b (false)])
                (chk (decide (Int.ofNat (List.length x2166) = Int.ofNat (List.length x2166)) && true && true) <|
                 out (tfrc_Rate x2166 x2168 x2170 x2172 x2174 x2176 x2178 x2180 x2182 x2184 x2186) fun r2190 =>
                 un_i r2190 fun x2191 r2192 =>
                 un_nil r2192 <|
                 one (quoI .u64 x2132 2) fun x2193 =>
                 one (wrapI .u64 size) fun x2194 =>
                 one (maxI x2193 x2194) fun x2195 =>
                 br (x2191 != x2195)
                   (kr [.b (false)])
                   (one (addI .i64 i 1) fun x2196 =>
                    chk (decide (Int.ofNat (List.length x2166) = Int.ofNat (List.length x2166)) && true && true) <|
                    again (x2166) (x2168) (x2170) (x2172) (x2174) (x2176) (x2178) (x2180) (x2182) (x2184) (x2186) (size) (x2196) (x2135)))))))
    (chk (decide (Int.ofNat (List.length t_set_l0) = Int.ofNat (List.length t_set_l0)) && true && true) <|
     kx 0 [.li (t_set_l0), .li (t_set_l1), .i (t_s), .i (t_x), .i (t_loss), .i (t_rtt), .b (t_heard), .i (t_doubled), .b (t_began), .b (t_started), .i (t_due), .i (size)])
def TfrcHalves_10_L {α : Type} (kx : Nat → List Leaf → Option α) (kr : List Leaf → Option α) : Nat → List Int → List Int → Int → Int → Int → Int → Bool → Int → Bool → Bool → Int → Int → Int → Int → Option α
  | 0, _, _, _, _, _, _, _, _, _, _, _, _, _, _ => none
  | n + 1, t_set_l0, t_set_l1, t_s, t_x, t_loss, t_rtt, t_heard, t_doubled, t_began, t_started, t_due, size, i, now => TfrcHalves_10_B  kx kr (TfrcHalves_10_L kx kr n) t_set_l0 t_set_l1 t_s t_x t_loss t_rtt t_heard t_doubled t_began t_started t_due size i now
def TfrcHalves_10_F (L10 : ({β : Type} → (Nat → List Leaf → Option β) → (List Leaf → Option β) → Nat → List Int → List Int → Int → Int → Int → Int → Bool → Int → Bool → Bool → Int → Int → Int → Int → Option β)) {α : Type} (n : Nat) (ls : List Leaf) (kx : Nat → List Leaf → Option α) (kr : List Leaf → Option α) : Option α := un_li ls fun t_set_l0 rr => un_li rr fun t_set_l1 rr => un_i rr fun t_s rr => un_i rr fun t_x rr => un_i rr fun t_loss rr => un_i rr fun t_rtt rr => un_b rr fun t_heard rr => un_i rr fun t_doubled rr => un_b rr fun t_began rr => un_b rr fun t_started rr => un_i rr fun t_due rr => un_i rr fun size rr => un_i rr fun i rr => un_i rr fun now rr => un_nil rr (L10 kx kr n t_set_l0 t_set_l1 t_s t_x t_loss t_rtt t_heard t_doubled t_began t_started t_due size i now)
def TfrcHalves_d (L10 : ({β : Type} → (Nat → List Leaf → Option β) → (List Leaf → Option β) → Nat → List Int → List Int → Int → Int → Int → Int → Bool → Int → Bool → Bool → Int → Int → Int → Int → Option β)) (size : Int) (sample : Int) (x : Int) (p : Int) : Option (List Leaf) :=
  one (remI .i64 size 1400) fun x2197 =>
  one (addI .i64 x2197 1400) fun x2198 =>
  one (remI .i64 x2198 1400) fun x2199 =>
  one (addI .i64 1 x2199) fun x2200 =>
  out (tfrc_New x2200) fun r2201 =>
  un_li r2201 fun x2202 r2203 =>
  un_li r2203 fun x2204 r2205 =>
  un_i r2205 fun x2206 r2207 =>
  un_i r2207 fun x2208 r2209 =>
  un_i r2209 fun x2210 r2211 =>
  un_i r2211 fun x2212 r2213 =>
  un_b r2213 fun x2214 r2215 =>
  un_i r2215 fun x2216 r2217 =>
  un_b r2217 fun x2218 r2219 =>
  un_b r2219 fun x2220 r2221 =>
  un_i r2221 fun x2222 r2223 =>
  un_nil r2223 <|
  chk (decide (Int.ofNat (List.length x2202) = Int.ofNat (List.length x2202)) && true && true) <|
  out (tfrc_Start x2202 x2204 x2206 x2208 x2210 x2212 x2214 x2216 x2218 x2220 x2222 0) fun r2224 =>
  un_li r2224 fun x2225 r2226 =>
  un_li r2226 fun x2227 r2228 =>
  un_i r2228 fun x2229 r2230 =>
  un_i r2230 fun x2231 r2232 =>
  un_i r2232 fun x2233 r2234 =>
  un_i r2234 fun x2235 r2236 =>
  un_b r2236 fun x2237 r2238 =>
  un_i r2238 fun x2239 r2240 =>
  un_b r2240 fun x2241 r2242 =>
  un_b r2242 fun x2243 r2244 =>
  un_i r2244 fun x2245 r2246 =>
  un_nil r2246 <|
  chk (decide (Int.ofNat (List.length x2225) = Int.ofNat (List.length x2225)) && true && true) <|
  out (tfrc_Hear x2225 x2227 x2229 x2231 x2233 x2235 x2237 x2239 x2241 x2243 x2245 1000 sample x p false) fun r2247 =>
  un_li r2247 fun x2248 r2249 =>
  un_li r2249 fun x2250 r2251 =>
  un_i r2251 fun x2252 r2253 =>
  un_i r2253 fun x2254 r2255 =>
  un_i r2255 fun x2256 r2257 =>
  un_i r2257 fun x2258 r2259 =>
  un_b r2259 fun x2260 r2261 =>
  un_i r2261 fun x2262 r2263 =>
  un_b r2263 fun x2264 r2265 =>
  un_b r2265 fun x2266 r2267 =>
  un_i r2267 fun x2268 r2269 =>
  un_nil r2269 <|
  chk (decide (Int.ofNat (List.length x2248) = Int.ofNat (List.length x2248)) && true && true) <|
  L10
    (fun i2270 r2271 =>
     br (Nat.beq 0 i2270)
       (un_li r2271 fun x2272 r2273 =>
        un_li r2273 fun x2274 r2275 =>
        un_i r2275 fun x2276 r2277 =>
        un_i r2277 fun x2278 r2279 =>
        un_i r2279 fun x2280 r2281 =>
        un_i r2281 fun x2282 r2283 =>
        un_b r2283 fun x2284 r2285 =>
        un_i r2285 fun x2286 r2287 =>
        un_b r2287 fun x2288 r2289 =>
        un_b r2289 fun x2290 r2291 =>
        un_i r2291 fun x2292 r2293 =>
        un_i r2293 fun x2294 r2295 =>
        un_nil r2295 <|
        chk (decide (Int.ofNat (List.length x2272) = Int.ofNat (List.length x2272)) && true && true) <|
        out (tfrc_Due x2272 x2274 x2276 x2278 x2280 x2282 x2284 x2286 x2288 x2290 x2292) fun r2296 =>
        un_i r2296 fun x2297 r2298 =>
        un_b r2298 fun x2299 r2300 =>
        un_nil r2300 <|
        chk (decide (Int.ofNat (List.length x2272) = Int.ofNat (List.length x2272)) && true && true) <|
        out (tfrc_Rate x2272 x2274 x2276 x2278 x2280 x2282 x2284 x2286 x2288 x2290 x2292) fun r2301 =>
        un_i r2301 fun x2302 r2303 =>
        un_nil r2303 <|
        one (wrapI .u64 x2294) fun x2304 =>
        br (x2302 == x2304)
          (br (!x2299)
             (chk (decide (Int.ofNat (List.length x2272) = Int.ofNat (List.length x2272)) && true && true) <|
              out (tfrc_Fire x2272 x2274 x2276 x2278 x2280 x2282 x2284 x2286 x2288 x2290 x2292 2305843009213693952) fun r2305 =>
              un_li r2305 fun x2306 r2307 =>
              un_li r2307 fun x2308 r2309 =>
              un_i r2309 fun x2310 r2311 =>
              un_i r2311 fun x2312 r2313 =>
              un_i r2313 fun x2314 r2315 =>
              un_i r2315 fun x2316 r2317 =>
              un_b r2317 fun x2318 r2319 =>
              un_i r2319 fun x2320 r2321 =>
              un_b r2321 fun x2322 r2323 =>
              un_b r2323 fun x2324 r2325 =>
              un_i r2325 fun x2326 r2327 =>
              un_b r2327 fun x2328 r2329 =>
              un_nil r2329 <|
              some [.b (!x2328)])
             (some [.b (false)]))
          (some [.b (false)]))
       (none))
    (fun r2330 =>
     un_b r2330 fun x2331 r2332 =>
     un_nil r2332 <|
     some [.b (x2331)])
    top (x2248) (x2250) (x2252) (x2254) (x2256) (x2258) (x2260) (x2262) (x2264) (x2266) (x2268) (x2200) (0) (1000)
def TfrcHalves (size : Int) (sample : Int) (x : Int) (p : Int) : Option (List Leaf) := TfrcHalves_d @TfrcHalves_10_L size sample x p
end Go.Sx.T

