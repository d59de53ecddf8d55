import Derived.Test.YtopcljhdejindaaGreatDoorYWinSpec
set_option linter.all false
namespace Go.Sx.T
open Go Go.Sx
def WinMarks_6_B  {α : Type} (kx : Nat → List Leaf → Option α) (kr : List Leaf → Option α) (again : List Int → Int → Int → Int → Int → Int → Bool → Int → Bool → Bool → Int → Bool → Int → Int → Int → Int → Option α) (marks : List Int) (w_cwnd : Int) (w_slow : Int) (w_pipe : Int) (w_count : Int) (w_halved_n : Int) (w_halved_is : Bool) (w_last_n : Int) (w_last_is : Bool) (w_runs : Bool) (w_due : Int) (w_rtt_any : Bool) (w_rtt_smooth : Int) (w_rtt_spread : Int) (w_rtt_rto : Int) (n2 : Int) : Option α :=
  out (win_Cwnd w_cwnd w_slow w_pipe w_count w_halved_n w_halved_is w_last_n w_last_is w_runs w_due w_rtt_any w_rtt_smooth w_rtt_spread w_rtt_rto) fun r1948 =>
  un_i r1948 fun x1949 r1950 =>
  un_nil r1950 <|
  br (decide (x1949 < n2))
    (chk (decide (↑1 = Int.ofNat (List.length [remI .u64 1 281474976710656])) && (decide (0 = Int.ofNat 0) && (decide (0 = Int.ofNat 0) && true)) && true) <|
     out (win_Hear [remI .u64 1 281474976710656] [] [] w_cwnd w_slow w_pipe w_count w_halved_n w_halved_is w_last_n w_last_is w_runs w_due w_rtt_any w_rtt_smooth w_rtt_spread w_rtt_rto (remI .i64 (addI .i64 (remI .i64 0 3) 3) 3) (maxI (-1) (minI (-1) 1099511627776)) 0) fun r1951 =>
     un_i r1951 fun x1952 r1953 =>
     un_i r1953 fun x1954 r1955 =>
     un_i r1955 fun x1956 r1957 =>
     un_i r1957 fun x1958 r1959 =>
     un_i r1959 fun x1960 r1961 =>
     un_b r1961 fun x1962 r1963 =>
     un_i r1963 fun x1964 r1965 =>
     un_b r1965 fun x1966 r1967 =>
     un_b r1967 fun x1968 r1969 =>
     un_i r1969 fun x1970 r1971 =>
     un_b r1971 fun x1972 r1973 =>
     un_i r1973 fun x1974 r1975 =>
     un_i r1975 fun x1976 r1977 =>
     un_i r1977 fun x1978 r1979 =>
     un_nil r1979 <|
     chk (decide (Int.ofNat (List.length marks) = Int.ofNat (List.length marks)) && true) <|
     again (marks) (x1952) (x1954) (x1956) (x1958) (x1960) (x1962) (x1964) (x1966) (x1968) (x1970) (x1972) (x1974) (x1976) (x1978) (n2))
    (chk (decide (Int.ofNat (List.length marks) = Int.ofNat (List.length marks)) && true) <|
     kx 0 [.li (marks), .i (w_cwnd), .i (w_slow), .i (w_pipe), .i (w_count), .i (w_halved_n), .b (w_halved_is), .i (w_last_n), .b (w_last_is), .b (w_runs), .i (w_due), .b (w_rtt_any), .i (w_rtt_smooth), .i (w_rtt_spread), .i (w_rtt_rto), .i (n2)])
def WinMarks_6_L {α : Type} (kx : Nat → List Leaf → Option α) (kr : List Leaf → Option α) : Nat → List Int → Int → Int → Int → Int → Int → Bool → Int → Bool → Bool → Int → Bool → Int → Int → Int → Int → Option α
  | 0, _, _, _, _, _, _, _, _, _, _, _, _, _, _, _, _ => none
  | n + 1, marks, w_cwnd, w_slow, w_pipe, w_count, w_halved_n, w_halved_is, w_last_n, w_last_is, w_runs, w_due, w_rtt_any, w_rtt_smooth, w_rtt_spread, w_rtt_rto, n2 => WinMarks_6_B  kx kr (WinMarks_6_L kx kr n) marks w_cwnd w_slow w_pipe w_count w_halved_n w_halved_is w_last_n w_last_is w_runs w_due w_rtt_any w_rtt_smooth w_rtt_spread w_rtt_rto n2
def WinMarks_6_F (L6 : ({β : Type} → (Nat → List Leaf → Option β) → (List Leaf → Option β) → Nat → List Int → Int → Int → Int → Int → Int → Bool → Int → Bool → Bool → Int → Bool → Int → Int → Int → Int → Option β)) {α : Type} (n : Nat) (ls : List Leaf) (kx : Nat → List Leaf → Option α) (kr : List Leaf → Option α) : Option α := un_li ls fun marks rr => un_i rr fun w_cwnd rr => un_i rr fun w_slow rr => un_i rr fun w_pipe rr => un_i rr fun w_count rr => un_i rr fun w_halved_n rr => un_b rr fun w_halved_is rr => un_i rr fun w_last_n rr => un_b rr fun w_last_is rr => un_b rr fun w_runs rr => un_i rr fun w_due rr => un_b rr fun w_rtt_any rr => un_i rr fun w_rtt_smooth rr => un_i rr fun w_rtt_spread rr => un_i rr fun w_rtt_rto rr => un_i rr fun n2 rr => un_nil rr (L6 kx kr n marks w_cwnd w_slow w_pipe w_count w_halved_n w_halved_is w_last_n w_last_is w_runs w_due w_rtt_any w_rtt_smooth w_rtt_spread w_rtt_rto n2)
def WinMarks_10_B  {α : Type} (kx : Nat → List Leaf → Option α) (kr : List Leaf → Option α) (again : List Int → Int → Int → Int → Int → Int → Bool → Int → Bool → Bool → Int → Bool → Int → Int → Int → Int → Int → Option α) (marks : List Int) (w_cwnd : Int) (w_slow : Int) (w_pipe : Int) (w_count : Int) (w_halved_n : Int) (w_halved_is : Bool) (w_last_n : Int) (w_last_is : Bool) (w_runs : Bool) (w_due : Int) (w_rtt_any : Bool) (w_rtt_smooth : Int) (w_rtt_spread : Int) (w_rtt_rto : Int) (i : Int) (n2 : Int) : Option α :=
  br (decide (i < n2))
    (one (addI .i64 100 i) fun x2082 =>
     one (wrapI .u64 x2082) fun x2083 =>
     out (win_Sent w_cwnd w_slow w_pipe w_count w_halved_n w_halved_is w_last_n w_last_is w_runs w_due w_rtt_any w_rtt_smooth w_rtt_spread w_rtt_rto x2083 0) fun r2084 =>
     un_i r2084 fun x2085 r2086 =>
     un_i r2086 fun x2087 r2088 =>
     un_i r2088 fun x2089 r2090 =>
     un_i r2090 fun x2091 r2092 =>
     un_i r2092 fun x2093 r2094 =>
     un_b r2094 fun x2095 r2096 =>
     un_i r2096 fun x2097 r2098 =>
     un_b r2098 fun x2099 r2100 =>
     un_b r2100 fun x2101 r2102 =>
     un_i r2102 fun x2103 r2104 =>
     un_b r2104 fun x2105 r2106 =>
     un_i r2106 fun x2107 r2108 =>
     un_i r2108 fun x2109 r2110 =>
     un_i r2110 fun x2111 r2112 =>
     un_b r2112 fun x2113 r2114 =>
     un_nil r2114 <|
     one (addI .i64 i 1) fun x2115 =>
     chk (decide (Int.ofNat (List.length marks) = Int.ofNat (List.length marks)) && true) <|
     again (marks) (x2085) (x2087) (x2089) (x2091) (x2093) (x2095) (x2097) (x2099) (x2101) (x2103) (x2105) (x2107) (x2109) (x2111) (x2115) (n2))
    (chk (decide (Int.ofNat (List.length marks) = Int.ofNat (List.length marks)) && true) <|
     kx 2 [.li (marks), .i (w_cwnd), .i (w_slow), .i (w_pipe), .i (w_count), .i (w_halved_n), .b (w_halved_is), .i (w_last_n), .b (w_last_is), .b (w_runs), .i (w_due), .b (w_rtt_any), .i (w_rtt_smooth), .i (w_rtt_spread), .i (w_rtt_rto)])
def WinMarks_10_L {α : Type} (kx : Nat → List Leaf → Option α) (kr : List Leaf → Option α) : Nat → List Int → Int → Int → Int → Int → Int → Bool → Int → Bool → Bool → Int → Bool → Int → Int → Int → Int → Int → Option α
  | 0, _, _, _, _, _, _, _, _, _, _, _, _, _, _, _, _, _ => none
  | n + 1, marks, w_cwnd, w_slow, w_pipe, w_count, w_halved_n, w_halved_is, w_last_n, w_last_is, w_runs, w_due, w_rtt_any, w_rtt_smooth, w_rtt_spread, w_rtt_rto, i, n2 => WinMarks_10_B  kx kr (WinMarks_10_L kx kr n) marks w_cwnd w_slow w_pipe w_count w_halved_n w_halved_is w_last_n w_last_is w_runs w_due w_rtt_any w_rtt_smooth w_rtt_spread w_rtt_rto i n2
def WinMarks_10_F (L10 : ({β : Type} → (Nat → List Leaf → Option β) → (List Leaf → Option β) → Nat → List Int → Int → Int → Int → Int → Int → Bool → Int → Bool → Bool → Int → Bool → Int → Int → Int → Int → Int → Option β)) {α : Type} (n : Nat) (ls : List Leaf) (kx : Nat → List Leaf → Option α) (kr : List Leaf → Option α) : Option α := un_li ls fun marks rr => un_i rr fun w_cwnd rr => un_i rr fun w_slow rr => un_i rr fun w_pipe rr => un_i rr fun w_count rr => un_i rr fun w_halved_n rr => un_b rr fun w_halved_is rr => un_i rr fun w_last_n rr => un_b rr fun w_last_is rr => un_b rr fun w_runs rr => un_i rr fun w_due rr => un_b rr fun w_rtt_any rr => un_i rr fun w_rtt_smooth rr => un_i rr fun w_rtt_spread rr => un_i rr fun w_rtt_rto rr => un_i rr fun i rr => un_i rr fun n2 rr => un_nil rr (L10 kx kr n marks w_cwnd w_slow w_pipe w_count w_halved_n w_halved_is w_last_n w_last_is w_runs w_due w_rtt_any w_rtt_smooth w_rtt_spread w_rtt_rto i n2)
def WinMarks_15_B  {α : Type} (kx : Nat → List Leaf → Option α) (kr : List Leaf → Option α) (again : List Int → Int → Int → Int → Int → Int → Bool → Int → Bool → Bool → Int → Bool → Int → Int → Int → Int → Int → Option α) (marks : List Int) (w_cwnd : Int) (w_slow : Int) (w_pipe : Int) (w_count : Int) (w_halved_n : Int) (w_halved_is : Bool) (w_last_n : Int) (w_last_is : Bool) (w_runs : Bool) (w_due : Int) (w_rtt_any : Bool) (w_rtt_smooth : Int) (w_rtt_spread : Int) (w_rtt_rto : Int) (i : Int) (was : Int) : Option α :=
  one (Int.ofNat (List.length marks)) fun x2278 =>
  br (decide (i < x2278))
    (br (decide (i < 5))
       (out (win_Cwnd w_cwnd w_slow w_pipe w_count w_halved_n w_halved_is w_last_n w_last_is w_runs w_due w_rtt_any w_rtt_smooth w_rtt_spread w_rtt_rto) fun r2279 =>
        un_i r2279 fun x2280 r2281 =>
        un_nil r2281 <|
        one (addI .i64 100 i) fun x2282 =>
        one (wrapI .u64 x2282) fun x2283 =>
        chk (decide (↑1 = Int.ofNat (List.length [x2283])) && (decide (0 = Int.ofNat 0) && (decide (0 = Int.ofNat 0) && true)) && true) <|
        out (win_Hear [x2283] [] [] w_cwnd w_slow w_pipe w_count w_halved_n w_halved_is w_last_n w_last_is w_runs w_due w_rtt_any w_rtt_smooth w_rtt_spread w_rtt_rto 1 (-1) 0) fun r2284 =>
        un_i r2284 fun x2285 r2286 =>
        un_i r2286 fun x2287 r2288 =>
        un_i r2288 fun x2289 r2290 =>
        un_i r2290 fun x2291 r2292 =>
        un_i r2292 fun x2293 r2294 =>
        un_b r2294 fun x2295 r2296 =>
        un_i r2296 fun x2297 r2298 =>
        un_b r2298 fun x2299 r2300 =>
        un_b r2300 fun x2301 r2302 =>
        un_i r2302 fun x2303 r2304 =>
        un_b r2304 fun x2305 r2306 =>
        un_i r2306 fun x2307 r2308 =>
        un_i r2308 fun x2309 r2310 =>
        un_i r2310 fun x2311 r2312 =>
        un_nil r2312 <|
        br (i == 0)
          (out (win_Cwnd x2285 x2287 x2289 x2291 x2293 x2295 x2297 x2299 x2301 x2303 x2305 x2307 x2309 x2311) fun r2313 =>
           un_i r2313 fun x2314 r2315 =>
           un_nil r2315 <|
           one (addI .i64 was 1) fun x2316 =>
           one (quoI .i64 x2316 2) fun x2317 =>
           br (x2314 != x2317)
             (kr [.li (marks), .b (false)])
             (br (decide (i > 0))
                (out (win_Cwnd x2285 x2287 x2289 x2291 x2293 x2295 x2297 x2299 x2301 x2303 x2305 x2307 x2309 x2311) fun r2318 =>
                 un_i r2318 fun x2319 r2320 =>
                 un_nil r2320 <|
                 br (decide (x2319 < x2280))
                   (kr [.li (marks), .b (false)])
                   (out (win_Cwnd x2285 x2287 x2289 x2291 x2293 x2295 x2297 x2299 x2301 x2303 x2305 x2307 x2309 x2311) fun r2321 =>
                    un_i r2321 fun x2322 r2323 =>
                    un_nil r2323 <|
                    one (addI .i64 x2280 1) fun x2324 =>
                    br (decide (x2322 > x2324))
                      (kr [.li (marks), .b (false)])
                      (one (addI .i64 i 1) fun x2325 =>
                       chk (decide (Int.ofNat (List.length marks) = Int.ofNat (List.length marks)) && true) <|
                       again (marks) (x2285) (x2287) (x2289) (x2291) (x2293) (x2295) (x2297) (x2299) (x2301) (x2303) (x2305) (x2307) (x2309) (x2311) (x2325) (was))))
                (one (addI .i64 i 1) fun x2326 =>
                 chk (decide (Int.ofNat (List.length marks) = Int.ofNat (List.length marks)) && true) <|
                 again (marks) (x2285) (x2287) (x2289) (x2291) (x2293) (x2295) (x2297) (x2299) (x2301) (x2303) (x2305) (x2307) (x2309) (x2311) (x2326) (was))))
          (br (decide (i > 0))
             (out (win_Cwnd x2285 x2287 x2289 x2291 x2293 x2295 x2297 x2299 x2301 x2303 x2305 x2307 x2309 x2311) fun r2327 =>
              un_i r2327 fun x2328 r2329 =>
              un_nil r2329 <|
              br (decide (x2328 < x2280))
                (kr [.li (marks), .b (false)])
                (out (win_Cwnd x2285 x2287 x2289 x2291 x2293 x2295 x2297 x2299 x2301 x2303 x2305 x2307 x2309 x2311) fun r2330 =>
                 un_i r2330 fun x2331 r2332 =>
                 un_nil r2332 <|
                 one (addI .i64 x2280 1) fun x2333 =>
                 br (decide (x2331 > x2333))
                   (kr [.li (marks), .b (false)])
                   (one (addI .i64 i 1) fun x2334 =>
                    chk (decide (Int.ofNat (List.length marks) = Int.ofNat (List.length marks)) && true) <|
                    again (marks) (x2285) (x2287) (x2289) (x2291) (x2293) (x2295) (x2297) (x2299) (x2301) (x2303) (x2305) (x2307) (x2309) (x2311) (x2334) (was))))
             (one (addI .i64 i 1) fun x2335 =>
              chk (decide (Int.ofNat (List.length marks) = Int.ofNat (List.length marks)) && true) <|
              again (marks) (x2285) (x2287) (x2289) (x2291) (x2293) (x2295) (x2297) (x2299) (x2301) (x2303) (x2305) (x2307) (x2309) (x2311) (x2335) (was))))
       (kx 4 [.li (marks)]))
    (kx 4 [.li (marks)])
def WinMarks_15_L {α : Type} (kx : Nat → List Leaf → Option α) (kr : List Leaf → Option α) : Nat → List Int → Int → Int → Int → Int → Int → Bool → Int → Bool → Bool → Int → Bool → Int → Int → Int → Int → Int → Option α
  | 0, _, _, _, _, _, _, _, _, _, _, _, _, _, _, _, _, _ => none
  | n + 1, marks, w_cwnd, w_slow, w_pipe, w_count, w_halved_n, w_halved_is, w_last_n, w_last_is, w_runs, w_due, w_rtt_any, w_rtt_smooth, w_rtt_spread, w_rtt_rto, i, was => WinMarks_15_B  kx kr (WinMarks_15_L kx kr n) marks w_cwnd w_slow w_pipe w_count w_halved_n w_halved_is w_last_n w_last_is w_runs w_due w_rtt_any w_rtt_smooth w_rtt_spread w_rtt_rto i was
def WinMarks_15_F (L15 : ({β : Type} → (Nat → List Leaf → Option β) → (List Leaf → Option β) → Nat → List Int → Int → Int → Int → Int → Int → Bool → Int → Bool → Bool → Int → Bool → Int → Int → Int → Int → Int → Option β)) {α : Type} (n : Nat) (ls : List Leaf) (kx : Nat → List Leaf → Option α) (kr : List Leaf → Option α) : Option α := un_li ls fun marks rr => un_i rr fun w_cwnd rr => un_i rr fun w_slow rr => un_i rr fun w_pipe rr => un_i rr fun w_count rr => un_i rr fun w_halved_n rr => un_b rr fun w_halved_is rr => un_i rr fun w_last_n rr => un_b rr fun w_last_is rr => un_b rr fun w_runs rr => un_i rr fun w_due rr => un_b rr fun w_rtt_any rr => un_i rr fun w_rtt_smooth rr => un_i rr fun w_rtt_spread rr => un_i rr fun w_rtt_rto rr => un_i rr fun i rr => un_i rr fun was rr => un_nil rr (L15 kx kr n marks w_cwnd w_slow w_pipe w_count w_halved_n w_halved_is w_last_n w_last_is w_runs w_due w_rtt_any w_rtt_smooth w_rtt_spread w_rtt_rto i was)
def WinMarks_d (L6 : ({β : Type} → (Nat → List Leaf → Option β) → (List Leaf → Option β) → Nat → List Int → Int → Int → Int → Int → Int → Bool → Int → Bool → Bool → Int → Bool → Int → Int → Int → Int → Option β)) (L10 : ({β : Type} → (Nat → List Leaf → Option β) → (List Leaf → Option β) → Nat → List Int → Int → Int → Int → Int → Int → Bool → Int → Bool → Bool → Int → Bool → Int → Int → Int → Int → Int → Option β)) (L15 : ({β : Type} → (Nat → List Leaf → Option β) → (List Leaf → Option β) → Nat → List Int → Int → Int → Int → Int → Int → Bool → Int → Bool → Bool → Int → Bool → Int → Int → Int → Int → Int → Option β)) (marks : List Int) (n2 : Int) : Option (List Leaf) :=
  one (remI .i64 n2 30) fun x2336 =>
  one (addI .i64 x2336 30) fun x2337 =>
  one (remI .i64 x2337 30) fun x2338 =>
  one (addI .i64 6 x2338) fun x2339 =>
  out (win_New) fun r2340 =>
  un_i r2340 fun x2341 r2342 =>
  un_i r2342 fun x2343 r2344 =>
  un_i r2344 fun x2345 r2346 =>
  un_i r2346 fun x2347 r2348 =>
  un_i r2348 fun x2349 r2350 =>
  un_b r2350 fun x2351 r2352 =>
  un_i r2352 fun x2353 r2354 =>
  un_b r2354 fun x2355 r2356 =>
  un_b r2356 fun x2357 r2358 =>
  un_i r2358 fun x2359 r2360 =>
  un_b r2360 fun x2361 r2362 =>
  un_i r2362 fun x2363 r2364 =>
  un_i r2364 fun x2365 r2366 =>
  un_i r2366 fun x2367 r2368 =>
  un_nil r2368 <|
  chk (decide (Int.ofNat (List.length marks) = Int.ofNat (List.length marks)) && true) <|
  L6
    (fun i2369 r2370 =>
     br (Nat.beq 0 i2369)
       (un_li r2370 fun x2371 r2372 =>
        un_i r2372 fun x2373 r2374 =>
        un_i r2374 fun x2375 r2376 =>
        un_i r2376 fun x2377 r2378 =>
        un_i r2378 fun x2379 r2380 =>
        un_i r2380 fun x2381 r2382 =>
        un_b r2382 fun x2383 r2384 =>
        un_i r2384 fun x2385 r2386 =>
        un_b r2386 fun x2387 r2388 =>
        un_b r2388 fun x2389 r2390 =>
        un_i r2390 fun x2391 r2392 =>
        un_b r2392 fun x2393 r2394 =>
        un_i r2394 fun x2395 r2396 =>
        un_i r2396 fun x2397 r2398 =>
        un_i r2398 fun x2399 r2400 =>
        un_i r2400 fun x2401 r2402 =>
        un_nil r2402 <|
        chk (decide (Int.ofNat (List.length x2371) = Int.ofNat (List.length x2371)) && true) <|
        L10
          (fun i2403 r2404 =>
           br (Nat.beq 2 i2403)
             (un_li r2404 fun x2405 r2406 =>
              un_i r2406 fun x2407 r2408 =>
              un_i r2408 fun x2409 r2410 =>
              un_i r2410 fun x2411 r2412 =>
              un_i r2412 fun x2413 r2414 =>
              un_i r2414 fun x2415 r2416 =>
              un_b r2416 fun x2417 r2418 =>
              un_i r2418 fun x2419 r2420 =>
              un_b r2420 fun x2421 r2422 =>
              un_b r2422 fun x2423 r2424 =>
              un_i r2424 fun x2425 r2426 =>
              un_b r2426 fun x2427 r2428 =>
              un_i r2428 fun x2429 r2430 =>
              un_i r2430 fun x2431 r2432 =>
              un_i r2432 fun x2433 r2434 =>
              un_nil r2434 <|
              out (win_Cwnd x2407 x2409 x2411 x2413 x2415 x2417 x2419 x2421 x2423 x2425 x2427 x2429 x2431 x2433) fun r2435 =>
              un_i r2435 fun x2436 r2437 =>
              un_nil r2437 <|
              chk (decide (Int.ofNat (List.length x2405) = Int.ofNat (List.length x2405)) && true) <|
              L15
                (fun i2438 r2439 =>
                 br (Nat.beq 4 i2438)
                   (un_li r2439 fun x2440 r2441 =>
                    un_nil r2441 <|
                    some [.b (true)])
                   (none))
                (fun r2442 =>
                 un_li r2442 fun x2443 r2444 =>
                 un_b r2444 fun x2445 r2446 =>
                 un_nil r2446 <|
                 some [.b (x2445)])
                top (x2405) (x2407) (x2409) (x2411) (x2413) (x2415) (x2417) (x2419) (x2421) (x2423) (x2425) (x2427) (x2429) (x2431) (x2433) (0) (x2436))
             (none))
          (fun r2447 =>
           un_nil r2447 <|
           none)
          top (x2371) (x2373) (x2375) (x2377) (x2379) (x2381) (x2383) (x2385) (x2387) (x2389) (x2391) (x2393) (x2395) (x2397) (x2399) (0) (x2401))
       (none))
    (fun r2448 =>
     un_nil r2448 <|
     none)
    top (marks) (x2341) (x2343) (x2345) (x2347) (x2349) (x2351) (x2353) (x2355) (x2357) (x2359) (x2361) (x2363) (x2365) (x2367) (x2339)
def WinMarks (marks : List Int) (n2 : Int) : Option (List Leaf) := WinMarks_d @WinMarks_6_L @WinMarks_10_L @WinMarks_15_L marks n2
end Go.Sx.T

