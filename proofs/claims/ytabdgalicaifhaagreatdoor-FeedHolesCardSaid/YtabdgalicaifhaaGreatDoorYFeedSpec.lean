import Derived.Test.YtabdgalicaifhaaGreatDoorYFixSpec
set_option linter.all false
namespace Go.Sx.T
open Go Go.Sx
def feed_New (r : Int) : Option (List Leaf) :=
  one (maxI r 1) fun x2428 =>
  one (minI x2428 4294967296) fun x2429 =>
  chk (decide ((0 : Int) = Int.ofNat (0 : Nat)) && true && true) <|
  some [.li ([]), .li ([]), .li ([]), .lb ([]), .li ([]), .i (x2429), .b (false), .i (0), .i (0), .i (0), .i (0), .b (false), .i (0), .i (0), .i (0), .i (0)]
def feed_lose (f_got_k : List Int) (f_got_v : List Int) (f_lost_k : List Int) (f_lost_v : List Bool) (f_closed : List Int) (f_r : Int) (f_any : Bool) (f_now : Int) (f_first : Int) (f_newest : Int) (f_count : Int) (f_event : Bool) (f_eventAt : Int) (f_eventN : Int) (f_bytes : Int) (f_since : Int) (n2 : Int) (at2 : Int) : Option (List Leaf) :=
  one (addI .i64 f_count 1) fun x2430 =>
  br (f_event)
    (one (addI .i64 f_eventAt f_r) fun x2431 =>
     br (decide (at2 ≤ x2431))
       (chk (decide (Int.ofNat (List.length f_closed) = Int.ofNat (List.length f_closed)) && true && true) <|
        some [.li (f_got_k), .li (f_got_v), .li (mputK f_lost_k n2), .lb (mputV f_lost_k f_lost_v n2 true), .li (f_closed), .i (f_r), .b (f_any), .i (f_now), .i (f_first), .i (f_newest), .i (x2430), .b (f_event), .i (f_eventAt), .i (f_eventN), .i (f_bytes), .i (f_since)])
       (br (f_event)
          (out (seq_Diff n2 f_eventN) fun r2432 =>
           un_i r2432 fun x2433 r2434 =>
           un_nil r2434 <|
           one (maxI x2433 1) fun x2435 =>
           one (wrapI .u64 x2435) fun x2436 =>
           chk (decide (Int.ofNat (List.length f_closed) = Int.ofNat (List.length f_closed)) && decide (((↑(1 : Nat) : Int) + Int.ofNat (List.length f_closed)) * (↑(nat_lit 8) : Int) ≤ (140737488355328 : Int) ∧ (↑(1 : Nat) : Int) + Int.ofNat (List.length f_closed) ≤ (4611686018427387904 : Int))) <|
           chk (decide (Int.ofNat (List.length f_closed) = Int.ofNat (List.length f_closed)) && decide (((↑(1 : Nat) : Int) + Int.ofNat (List.length f_closed)) * (↑(nat_lit 8) : Int) ≤ (140737488355328 : Int) ∧ (↑(1 : Nat) : Int) + Int.ofNat (List.length f_closed) ≤ (4611686018427387904 : Int))) <|
           one ((↑1 : Int) + Int.ofNat (List.length f_closed)) fun x2437 =>
           one (minI x2437 8) fun x2438 =>
           chk (condSl ((↑(1 : Nat) : Int) + rlOf [[], [Col.int .i64 f_got_k, Col.int .i64 f_got_v], [Col.int .i64 f_lost_k, Col.bool f_lost_v], [Col.int .u64 f_closed]] (3 : Nat)) Option.none (Option.some x2438)) <|
           chk (decide (x2438 = Int.ofNat (List.length ([x2436] ++ f_closed))) && true && true) <|
           some [.li (f_got_k), .li (f_got_v), .li (mputK f_lost_k n2), .lb (mputV f_lost_k f_lost_v n2 true), .li ([x2436] ++ f_closed), .i (f_r), .b (f_any), .i (f_now), .i (f_first), .i (f_newest), .i (x2430), .b (true), .i (at2), .i (n2), .i (f_bytes), .i (f_since)])
          (out (seq_Diff n2 f_first) fun r2439 =>
           un_i r2439 fun x2440 r2441 =>
           un_nil r2441 <|
           one (maxI x2440 1) fun x2442 =>
           one (wrapI .u64 x2442) fun x2443 =>
           chk (decide (Int.ofNat (List.length f_closed) = Int.ofNat (List.length f_closed)) && decide (((↑(1 : Nat) : Int) + Int.ofNat (List.length f_closed)) * (↑(nat_lit 8) : Int) ≤ (140737488355328 : Int) ∧ (↑(1 : Nat) : Int) + Int.ofNat (List.length f_closed) ≤ (4611686018427387904 : Int))) <|
           chk (decide (Int.ofNat (List.length f_closed) = Int.ofNat (List.length f_closed)) && decide (((↑(1 : Nat) : Int) + Int.ofNat (List.length f_closed)) * (↑(nat_lit 8) : Int) ≤ (140737488355328 : Int) ∧ (↑(1 : Nat) : Int) + Int.ofNat (List.length f_closed) ≤ (4611686018427387904 : Int))) <|
           one ((↑1 : Int) + Int.ofNat (List.length f_closed)) fun x2444 =>
           one (minI x2444 8) fun x2445 =>
           chk (condSl ((↑(1 : Nat) : Int) + rlOf [[], [Col.int .i64 f_got_k, Col.int .i64 f_got_v], [Col.int .i64 f_lost_k, Col.bool f_lost_v], [Col.int .u64 f_closed]] (3 : Nat)) Option.none (Option.some x2445)) <|
           chk (decide (x2445 = Int.ofNat (List.length ([x2443] ++ f_closed))) && true && true) <|
           some [.li (f_got_k), .li (f_got_v), .li (mputK f_lost_k n2), .lb (mputV f_lost_k f_lost_v n2 true), .li ([x2443] ++ f_closed), .i (f_r), .b (f_any), .i (f_now), .i (f_first), .i (f_newest), .i (x2430), .b (true), .i (at2), .i (n2), .i (f_bytes), .i (f_since)])))
    (br (f_event)
       (out (seq_Diff n2 f_eventN) fun r2446 =>
        un_i r2446 fun x2447 r2448 =>
        un_nil r2448 <|
        one (maxI x2447 1) fun x2449 =>
        one (wrapI .u64 x2449) fun x2450 =>
        chk (decide (Int.ofNat (List.length f_closed) = Int.ofNat (List.length f_closed)) && decide (((↑(1 : Nat) : Int) + Int.ofNat (List.length f_closed)) * (↑(nat_lit 8) : Int) ≤ (140737488355328 : Int) ∧ (↑(1 : Nat) : Int) + Int.ofNat (List.length f_closed) ≤ (4611686018427387904 : Int))) <|
        chk (decide (Int.ofNat (List.length f_closed) = Int.ofNat (List.length f_closed)) && decide (((↑(1 : Nat) : Int) + Int.ofNat (List.length f_closed)) * (↑(nat_lit 8) : Int) ≤ (140737488355328 : Int) ∧ (↑(1 : Nat) : Int) + Int.ofNat (List.length f_closed) ≤ (4611686018427387904 : Int))) <|
        one ((↑1 : Int) + Int.ofNat (List.length f_closed)) fun x2451 =>
        one (minI x2451 8) fun x2452 =>
        chk (condSl ((↑(1 : Nat) : Int) + rlOf [[], [Col.int .i64 f_got_k, Col.int .i64 f_got_v], [Col.int .i64 f_lost_k, Col.bool f_lost_v], [Col.int .u64 f_closed]] (3 : Nat)) Option.none (Option.some x2452)) <|
        chk (decide (x2452 = Int.ofNat (List.length ([x2450] ++ f_closed))) && true && true) <|
        some [.li (f_got_k), .li (f_got_v), .li (mputK f_lost_k n2), .lb (mputV f_lost_k f_lost_v n2 true), .li ([x2450] ++ f_closed), .i (f_r), .b (f_any), .i (f_now), .i (f_first), .i (f_newest), .i (x2430), .b (true), .i (at2), .i (n2), .i (f_bytes), .i (f_since)])
       (out (seq_Diff n2 f_first) fun r2453 =>
        un_i r2453 fun x2454 r2455 =>
        un_nil r2455 <|
        one (maxI x2454 1) fun x2456 =>
        one (wrapI .u64 x2456) fun x2457 =>
        chk (decide (Int.ofNat (List.length f_closed) = Int.ofNat (List.length f_closed)) && decide (((↑(1 : Nat) : Int) + Int.ofNat (List.length f_closed)) * (↑(nat_lit 8) : Int) ≤ (140737488355328 : Int) ∧ (↑(1 : Nat) : Int) + Int.ofNat (List.length f_closed) ≤ (4611686018427387904 : Int))) <|
        chk (decide (Int.ofNat (List.length f_closed) = Int.ofNat (List.length f_closed)) && decide (((↑(1 : Nat) : Int) + Int.ofNat (List.length f_closed)) * (↑(nat_lit 8) : Int) ≤ (140737488355328 : Int) ∧ (↑(1 : Nat) : Int) + Int.ofNat (List.length f_closed) ≤ (4611686018427387904 : Int))) <|
        one ((↑1 : Int) + Int.ofNat (List.length f_closed)) fun x2458 =>
        one (minI x2458 8) fun x2459 =>
        chk (condSl ((↑(1 : Nat) : Int) + rlOf [[], [Col.int .i64 f_got_k, Col.int .i64 f_got_v], [Col.int .i64 f_lost_k, Col.bool f_lost_v], [Col.int .u64 f_closed]] (3 : Nat)) Option.none (Option.some x2459)) <|
        chk (decide (x2459 = Int.ofNat (List.length ([x2457] ++ f_closed))) && true && true) <|
        some [.li (f_got_k), .li (f_got_v), .li (mputK f_lost_k n2), .lb (mputV f_lost_k f_lost_v n2 true), .li ([x2457] ++ f_closed), .i (f_r), .b (f_any), .i (f_now), .i (f_first), .i (f_newest), .i (x2430), .b (true), .i (at2), .i (n2), .i (f_bytes), .i (f_since)]))
def feed_look_4_B  {α : Type} (kx : Nat → List Leaf → Option α) (kr : List Leaf → Option α) (again : List Int → List Int → List Int → List Bool → List Int → List Int → List Int → Int → Bool → Int → Int → Int → Int → Bool → Int → Int → Int → Int → Int → Int → Int → Option α) (f_got_k : List Int) (f_got_v : List Int) (f_lost_k : List Int) (f_lost_v : List Bool) (f_closed : List Int) (at2 : List Int) (l : List Int) (f_r : Int) (f_any : Bool) (f_now : Int) (f_first : Int) (f_newest : Int) (f_count : Int) (f_event : Bool) (f_eventAt : Int) (f_eventN : Int) (f_bytes : Int) (f_since : Int) (t11 : Int) (behind : Int) (next : Int) : Option α :=
  br (decide (t11 < 250))
    (one (subI .i64 0 t11) fun x2473 =>
     out (seq_Add f_newest x2473) fun r2474 =>
     un_i r2474 fun x2475 r2476 =>
     un_nil r2476 <|
     out (seq_Less f_first x2475) fun r2477 =>
     un_b r2477 fun x2478 r2479 =>
     un_nil r2479 <|
     br (!x2478)
       (chk (decide (Int.ofNat (List.length f_closed) = Int.ofNat (List.length f_closed)) && true && true) <|
        chk (decide (Int.ofNat (List.length at2) = Int.ofNat (List.length at2)) && (decide (Int.ofNat (List.length l) = Int.ofNat (List.length l)) && true)) <|
        kx 0 [.li (f_got_k), .li (f_got_v), .li (f_lost_k), .lb (f_lost_v), .li (f_closed), .li (at2), .li (l), .i (f_r), .b (f_any), .i (f_now), .i (f_first), .i (f_newest), .i (f_count), .b (f_event), .i (f_eventAt), .i (f_eventN), .i (f_bytes), .i (f_since)])
       (one (mget 0 f_got_k f_got_v x2475) fun x2480 =>
        br (mhas f_got_k x2475)
          (one (addI .i64 behind 1) fun x2481 =>
           one (addI .i64 t11 1) fun x2482 =>
           chk (decide (Int.ofNat (List.length f_closed) = Int.ofNat (List.length f_closed)) && true && true) <|
           chk (decide (Int.ofNat (List.length at2) = Int.ofNat (List.length at2)) && (decide (Int.ofNat (List.length l) = Int.ofNat (List.length l)) && true)) <|
           again (f_got_k) (f_got_v) (f_lost_k) (f_lost_v) (f_closed) (at2) (l) (f_r) (f_any) (f_now) (f_first) (f_newest) (f_count) (f_event) (f_eventAt) (f_eventN) (f_bytes) (f_since) (x2482) (x2481) (x2480))
          (br (!mget false f_lost_k f_lost_v x2475)
             (br (decide (behind ≥ 3))
                (chk (decide (Int.ofNat (List.length l) = Int.ofNat (List.length l)) && true && decide ((Int.ofNat (List.length l) + (↑(1 : Nat) : Int)) * (↑(nat_lit 8) : Int) ≤ (140737488355328 : Int) ∧ Int.ofNat (List.length l) + (↑(1 : Nat) : Int) ≤ (4611686018427387904 : Int))) <|
                 chk (decide (Int.ofNat (List.length at2) = Int.ofNat (List.length at2)) && true && decide ((Int.ofNat (List.length at2) + (↑(1 : Nat) : Int)) * (↑(nat_lit 8) : Int) ≤ (140737488355328 : Int) ∧ Int.ofNat (List.length at2) + (↑(1 : Nat) : Int) ≤ (4611686018427387904 : Int))) <|
                 one (addI .i64 t11 1) fun x2483 =>
                 chk (decide (Int.ofNat (List.length f_closed) = Int.ofNat (List.length f_closed)) && true && true) <|
                 chk (decide (Int.ofNat (List.length at2) + (↑(1 : Nat) : Int) = Int.ofNat (List.length (at2 ++ [next]))) && (decide (Int.ofNat (List.length l) + (↑(1 : Nat) : Int) = Int.ofNat (List.length (l ++ [x2475]))) && true)) <|
                 again (f_got_k) (f_got_v) (f_lost_k) (f_lost_v) (f_closed) (at2 ++ [next]) (l ++ [x2475]) (f_r) (f_any) (f_now) (f_first) (f_newest) (f_count) (f_event) (f_eventAt) (f_eventN) (f_bytes) (f_since) (x2483) (behind) (next))
                (one (addI .i64 t11 1) fun x2484 =>
                 chk (decide (Int.ofNat (List.length f_closed) = Int.ofNat (List.length f_closed)) && true && true) <|
                 chk (decide (Int.ofNat (List.length at2) = Int.ofNat (List.length at2)) && (decide (Int.ofNat (List.length l) = Int.ofNat (List.length l)) && true)) <|
                 again (f_got_k) (f_got_v) (f_lost_k) (f_lost_v) (f_closed) (at2) (l) (f_r) (f_any) (f_now) (f_first) (f_newest) (f_count) (f_event) (f_eventAt) (f_eventN) (f_bytes) (f_since) (x2484) (behind) (next)))
             (one (addI .i64 t11 1) fun x2485 =>
              chk (decide (Int.ofNat (List.length f_closed) = Int.ofNat (List.length f_closed)) && true && true) <|
              chk (decide (Int.ofNat (List.length at2) = Int.ofNat (List.length at2)) && (decide (Int.ofNat (List.length l) = Int.ofNat (List.length l)) && true)) <|
              again (f_got_k) (f_got_v) (f_lost_k) (f_lost_v) (f_closed) (at2) (l) (f_r) (f_any) (f_now) (f_first) (f_newest) (f_count) (f_event) (f_eventAt) (f_eventN) (f_bytes) (f_since) (x2485) (behind) (next)))))
    (chk (decide (Int.ofNat (List.length f_closed) = Int.ofNat (List.length f_closed)) && true && true) <|
     chk (decide (Int.ofNat (List.length at2) = Int.ofNat (List.length at2)) && (decide (Int.ofNat (List.length l) = Int.ofNat (List.length l)) && true)) <|
     kx 0 [.li (f_got_k), .li (f_got_v), .li (f_lost_k), .lb (f_lost_v), .li (f_closed), .li (at2), .li (l), .i (f_r), .b (f_any), .i (f_now), .i (f_first), .i (f_newest), .i (f_count), .b (f_event), .i (f_eventAt), .i (f_eventN), .i (f_bytes), .i (f_since)])
def feed_look_4_L {α : Type} (kx : Nat → List Leaf → Option α) (kr : List Leaf → Option α) : Nat → List Int → List Int → List Int → List Bool → List Int → List Int → List Int → Int → Bool → Int → Int → Int → Int → Bool → Int → Int → Int → Int → Int → Int → Int → Option α
  | 0, _, _, _, _, _, _, _, _, _, _, _, _, _, _, _, _, _, _, _, _, _ => none
  | n + 1, f_got_k, f_got_v, f_lost_k, f_lost_v, f_closed, at2, l, f_r, f_any, f_now, f_first, f_newest, f_count, f_event, f_eventAt, f_eventN, f_bytes, f_since, t11, behind, next => feed_look_4_B  kx kr (feed_look_4_L kx kr n) f_got_k f_got_v f_lost_k f_lost_v f_closed at2 l f_r f_any f_now f_first f_newest f_count f_event f_eventAt f_eventN f_bytes f_since t11 behind next
def feed_look_4_F (L4 : ({β : Type} → (Nat → List Leaf → Option β) → (List Leaf → Option β) → Nat → List Int → List Int → List Int → List Bool → List Int → List Int → List Int → Int → Bool → Int → Int → Int → Int → Bool → Int → Int → Int → Int → Int → Int → Int → Option β)) {α : Type} (n : Nat) (ls : List Leaf) (kx : Nat → List Leaf → Option α) (kr : List Leaf → Option α) : Option α := un_li ls fun f_got_k rr => un_li rr fun f_got_v rr => un_li rr fun f_lost_k rr => un_lb rr fun f_lost_v rr => un_li rr fun f_closed rr => un_li rr fun at2 rr => un_li rr fun l rr => un_i rr fun f_r rr => un_b rr fun f_any rr => un_i rr fun f_now rr => un_i rr fun f_first rr => un_i rr fun f_newest rr => un_i rr fun f_count rr => un_b rr fun f_event rr => un_i rr fun f_eventAt rr => un_i rr fun f_eventN rr => un_i rr fun f_bytes rr => un_i rr fun f_since rr => un_i rr fun t11 rr => un_i rr fun behind rr => un_i rr fun next rr => un_nil rr (L4 kx kr n f_got_k f_got_v f_lost_k f_lost_v f_closed at2 l f_r f_any f_now f_first f_newest f_count f_event f_eventAt f_eventN f_bytes f_since t11 behind next)
def feed_look_15_B  {α : Type} (kx : Nat → List Leaf → Option α) (kr : List Leaf → Option α) (again : List Int → List Int → List Int → List Bool → List Int → List Int → List Int → Int → Bool → Int → Int → Int → Int → Bool → Int → Int → Int → Int → Int → Option α) (f_got_k : List Int) (f_got_v : List Int) (f_lost_k : List Int) (f_lost_v : List Bool) (f_closed : List Int) (at2 : List Int) (l : List Int) (f_r : Int) (f_any : Bool) (f_now : Int) (f_first : Int) (f_newest : Int) (f_count : Int) (f_event : Bool) (f_eventAt : Int) (f_eventN : Int) (f_bytes : Int) (f_since : Int) (i : Int) : Option α :=
  br (decide (i ≥ 0))
    (chk (decide ((0 : Int) ≤ i ∧ i < Int.ofNat (List.length l))) <|
     chk (decide ((0 : Int) ≤ i ∧ i < Int.ofNat (List.length l))) <|
     chk (decide ((0 : Int) ≤ i ∧ i < Int.ofNat (List.length at2))) <|
     chk (decide ((0 : Int) ≤ i ∧ i < Int.ofNat (List.length at2))) <|
     chk (decide (Int.ofNat (List.length f_closed) = Int.ofNat (List.length f_closed)) && true && true) <|
     out (feed_lose f_got_k f_got_v f_lost_k f_lost_v f_closed f_r f_any f_now f_first f_newest f_count f_event f_eventAt f_eventN f_bytes f_since (List.getD l (Int.toNat i) 0) (List.getD at2 (Int.toNat i) 0)) fun r2595 =>
     un_li r2595 fun x2596 r2597 =>
     un_li r2597 fun x2598 r2599 =>
     un_li r2599 fun x2600 r2601 =>
     un_lb r2601 fun x2602 r2603 =>
     un_li r2603 fun x2604 r2605 =>
     un_i r2605 fun x2606 r2607 =>
     un_b r2607 fun x2608 r2609 =>
     un_i r2609 fun x2610 r2611 =>
     un_i r2611 fun x2612 r2613 =>
     un_i r2613 fun x2614 r2615 =>
     un_i r2615 fun x2616 r2617 =>
     un_b r2617 fun x2618 r2619 =>
     un_i r2619 fun x2620 r2621 =>
     un_i r2621 fun x2622 r2623 =>
     un_i r2623 fun x2624 r2625 =>
     un_i r2625 fun x2626 r2627 =>
     un_nil r2627 <|
     one (subI .i64 i 1) fun x2628 =>
     chk (decide (Int.ofNat (List.length x2604) = Int.ofNat (List.length x2604)) && true && true) <|
     chk (decide (Int.ofNat (List.length at2) = Int.ofNat (List.length at2)) && (decide (Int.ofNat (List.length l) = Int.ofNat (List.length l)) && true)) <|
     again (x2596) (x2598) (x2600) (x2602) (x2604) (at2) (l) (x2606) (x2608) (x2610) (x2612) (x2614) (x2616) (x2618) (x2620) (x2622) (x2624) (x2626) (x2628))
    (chk (decide (Int.ofNat (List.length f_closed) = Int.ofNat (List.length f_closed)) && true && true) <|
     kx 3 [.li (f_got_k), .li (f_got_v), .li (f_lost_k), .lb (f_lost_v), .li (f_closed), .i (f_r), .b (f_any), .i (f_now), .i (f_first), .i (f_newest), .i (f_count), .b (f_event), .i (f_eventAt), .i (f_eventN), .i (f_bytes), .i (f_since)])
def feed_look_15_L {α : Type} (kx : Nat → List Leaf → Option α) (kr : List Leaf → Option α) : Nat → List Int → List Int → List Int → List Bool → List Int → List Int → List Int → Int → Bool → Int → Int → Int → Int → Bool → Int → Int → Int → Int → Int → Option α
  | 0, _, _, _, _, _, _, _, _, _, _, _, _, _, _, _, _, _, _, _ => none
  | n + 1, f_got_k, f_got_v, f_lost_k, f_lost_v, f_closed, at2, l, f_r, f_any, f_now, f_first, f_newest, f_count, f_event, f_eventAt, f_eventN, f_bytes, f_since, i => feed_look_15_B  kx kr (feed_look_15_L kx kr n) f_got_k f_got_v f_lost_k f_lost_v f_closed at2 l f_r f_any f_now f_first f_newest f_count f_event f_eventAt f_eventN f_bytes f_since i
def feed_look_15_F (L15 : ({β : Type} → (Nat → List Leaf → Option β) → (List Leaf → Option β) → Nat → List Int → List Int → List Int → List Bool → List Int → List Int → List Int → Int → Bool → Int → Int → Int → Int → Bool → Int → Int → Int → Int → Int → Option β)) {α : Type} (n : Nat) (ls : List Leaf) (kx : Nat → List Leaf → Option α) (kr : List Leaf → Option α) : Option α := un_li ls fun f_got_k rr => un_li rr fun f_got_v rr => un_li rr fun f_lost_k rr => un_lb rr fun f_lost_v rr => un_li rr fun f_closed rr => un_li rr fun at2 rr => un_li rr fun l rr => un_i rr fun f_r rr => un_b rr fun f_any rr => un_i rr fun f_now rr => un_i rr fun f_first rr => un_i rr fun f_newest rr => un_i rr fun f_count rr => un_b rr fun f_event rr => un_i rr fun f_eventAt rr => un_i rr fun f_eventN rr => un_i rr fun f_bytes rr => un_i rr fun f_since rr => un_i rr fun i rr => un_nil rr (L15 kx kr n f_got_k f_got_v f_lost_k f_lost_v f_closed at2 l f_r f_any f_now f_first f_newest f_count f_event f_eventAt f_eventN f_bytes f_since i)
def feed_look_d (L4 : ({β : Type} → (Nat → List Leaf → Option β) → (List Leaf → Option β) → Nat → List Int → List Int → List Int → List Bool → List Int → List Int → List Int → Int → Bool → Int → Int → Int → Int → Bool → Int → Int → Int → Int → Int → Int → Int → Option β)) (L15 : ({β : Type} → (Nat → List Leaf → Option β) → (List Leaf → Option β) → Nat → List Int → List Int → List Int → List Bool → List Int → List Int → List Int → Int → Bool → Int → Int → Int → Int → Bool → Int → Int → Int → Int → Int → Option β)) (f_got_k : List Int) (f_got_v : List Int) (f_lost_k : List Int) (f_lost_v : List Bool) (f_closed : List Int) (f_r : Int) (f_any : Bool) (f_now : Int) (f_first : Int) (f_newest : Int) (f_count : Int) (f_event : Bool) (f_eventAt : Int) (f_eventN : Int) (f_bytes : Int) (f_since : Int) : Option (List Leaf) :=
  chk (decide (Int.ofNat (List.length f_closed) = Int.ofNat (List.length f_closed)) && true && true) <|
  chk (decide ((0 : Int) = Int.ofNat (0 : Nat)) && (decide ((0 : Int) = Int.ofNat (0 : Nat)) && true)) <|
  L4
    (fun i2629 r2630 =>
     br (Nat.beq 0 i2629)
       (un_li r2630 fun x2631 r2632 =>
        un_li r2632 fun x2633 r2634 =>
        un_li r2634 fun x2635 r2636 =>
        un_lb r2636 fun x2637 r2638 =>
        un_li r2638 fun x2639 r2640 =>
        un_li r2640 fun x2641 r2642 =>
        un_li r2642 fun x2643 r2644 =>
        un_i r2644 fun x2645 r2646 =>
        un_b r2646 fun x2647 r2648 =>
        un_i r2648 fun x2649 r2650 =>
        un_i r2650 fun x2651 r2652 =>
        un_i r2652 fun x2653 r2654 =>
        un_i r2654 fun x2655 r2656 =>
        un_b r2656 fun x2657 r2658 =>
        un_i r2658 fun x2659 r2660 =>
        un_i r2660 fun x2661 r2662 =>
        un_i r2662 fun x2663 r2664 =>
        un_i r2664 fun x2665 r2666 =>
        un_nil r2666 <|
        one (Int.ofNat (List.length x2643)) fun x2667 =>
        one (subI .i64 x2667 1) fun x2668 =>
        chk (decide (Int.ofNat (List.length x2639) = Int.ofNat (List.length x2639)) && true && true) <|
        chk (decide (Int.ofNat (List.length x2641) = Int.ofNat (List.length x2641)) && (decide (Int.ofNat (List.length x2643) = Int.ofNat (List.length x2643)) && true)) <|
        L15
          (fun i2669 r2670 =>
           br (Nat.beq 3 i2669)
             (un_li r2670 fun x2671 r2672 =>
              un_li r2672 fun x2673 r2674 =>
              un_li r2674 fun x2675 r2676 =>
              un_lb r2676 fun x2677 r2678 =>
              un_li r2678 fun x2679 r2680 =>
              un_i r2680 fun x2681 r2682 =>
              un_b r2682 fun x2683 r2684 =>
              un_i r2684 fun x2685 r2686 =>
              un_i r2686 fun x2687 r2688 =>
              un_i r2688 fun x2689 r2690 =>
              un_i r2690 fun x2691 r2692 =>
              un_b r2692 fun x2693 r2694 =>
              un_i r2694 fun x2695 r2696 =>
              un_i r2696 fun x2697 r2698 =>
              un_i r2698 fun x2699 r2700 =>
              un_i r2700 fun x2701 r2702 =>
              un_nil r2702 <|
              chk (decide (Int.ofNat (List.length x2679) = Int.ofNat (List.length x2679)) && true && true) <|
              some [.li (x2671), .li (x2673), .li (x2675), .lb (x2677), .li (x2679), .i (x2681), .b (x2683), .i (x2685), .i (x2687), .i (x2689), .i (x2691), .b (x2693), .i (x2695), .i (x2697), .i (x2699), .i (x2701)])
             (none))
          (fun r2703 =>
           un_nil r2703 <|
           none)
          top (x2631) (x2633) (x2635) (x2637) (x2639) (x2641) (x2643) (x2645) (x2647) (x2649) (x2651) (x2653) (x2655) (x2657) (x2659) (x2661) (x2663) (x2665) (x2668))
       (none))
    (fun r2704 =>
     un_nil r2704 <|
     none)
    top (f_got_k) (f_got_v) (f_lost_k) (f_lost_v) (f_closed) ([]) ([]) (f_r) (f_any) (f_now) (f_first) (f_newest) (f_count) (f_event) (f_eventAt) (f_eventN) (f_bytes) (f_since) (0) (0) (0)
def feed_look (f_got_k : List Int) (f_got_v : List Int) (f_lost_k : List Int) (f_lost_v : List Bool) (f_closed : List Int) (f_r : Int) (f_any : Bool) (f_now : Int) (f_first : Int) (f_newest : Int) (f_count : Int) (f_event : Bool) (f_eventAt : Int) (f_eventN : Int) (f_bytes : Int) (f_since : Int) : Option (List Leaf) := feed_look_d @feed_look_4_L @feed_look_15_L f_got_k f_got_v f_lost_k f_lost_v f_closed f_r f_any f_now f_first f_newest f_count f_event f_eventAt f_eventN f_bytes f_since
def feed_Intervals (f_got_k : List Int) (f_got_v : List Int) (f_lost_k : List Int) (f_lost_v : List Bool) (f_closed : List Int) (f_r : Int) (f_any : Bool) (f_now : Int) (f_first : Int) (f_newest : Int) (f_count : Int) (f_event : Bool) (f_eventAt : Int) (f_eventN : Int) (f_bytes : Int) (f_since : Int) : Option (List Leaf) :=
  br (!f_event)
    (none)
    (out (seq_Diff f_newest f_eventN) fun r2705 =>
     un_i r2705 fun x2706 r2707 =>
     un_nil r2707 <|
     one (maxI x2706 0) fun x2708 =>
     one (wrapI .u64 x2708) fun x2709 =>
     chk (decide (Int.ofNat (List.length f_closed) = Int.ofNat (List.length f_closed)) && decide (Int.ofNat (List.length f_closed) * (↑(nat_lit 8) : Int) ≤ (140737488355328 : Int) ∧ Int.ofNat (List.length f_closed) ≤ (4611686018427387904 : Int))) <|
     chk (decide (Int.ofNat (List.length f_closed) = Int.ofNat (List.length f_closed)) && decide (Int.ofNat (List.length f_closed) * (↑(nat_lit 8) : Int) ≤ (140737488355328 : Int) ∧ Int.ofNat (List.length f_closed) ≤ (4611686018427387904 : Int))) <|
     chk (decide (Int.ofNat (List.length f_closed) = Int.ofNat (List.length f_closed)) && true && true) <|
     chk (decide (Int.ofNat (List.length f_closed) = Int.ofNat (List.length f_closed)) && true && true) <|
     some [.li (f_got_k), .li (f_got_v), .li (f_lost_k), .lb (f_lost_v), .li (f_closed), .li (f_closed), .i (f_r), .b (f_any), .i (f_now), .i (f_first), .i (f_newest), .i (f_count), .b (f_event), .i (f_eventAt), .i (f_eventN), .i (f_bytes), .i (f_since), .i (x2709)])
def feed_Loss (f_got_k : List Int) (f_got_v : List Int) (f_lost_k : List Int) (f_lost_v : List Bool) (f_closed : List Int) (f_r : Int) (f_any : Bool) (f_now : Int) (f_first : Int) (f_newest : Int) (f_count : Int) (f_event : Bool) (f_eventAt : Int) (f_eventN : Int) (f_bytes : Int) (f_since : Int) : Option (List Leaf) :=
  chk (decide (Int.ofNat (List.length f_closed) = Int.ofNat (List.length f_closed)) && true && true) <|
  out (feed_Intervals f_got_k f_got_v f_lost_k f_lost_v f_closed f_r f_any f_now f_first f_newest f_count f_event f_eventAt f_eventN f_bytes f_since) fun r2710 =>
  un_li r2710 fun x2711 r2712 =>
  un_li r2712 fun x2713 r2714 =>
  un_li r2714 fun x2715 r2716 =>
  un_lb r2716 fun x2717 r2718 =>
  un_li r2718 fun x2719 r2720 =>
  un_li r2720 fun x2721 r2722 =>
  un_i r2722 fun x2723 r2724 =>
  un_b r2724 fun x2725 r2726 =>
  un_i r2726 fun x2727 r2728 =>
  un_i r2728 fun x2729 r2730 =>
  un_i r2730 fun x2731 r2732 =>
  un_i r2732 fun x2733 r2734 =>
  un_b r2734 fun x2735 r2736 =>
  un_i r2736 fun x2737 r2738 =>
  un_i r2738 fun x2739 r2740 =>
  un_i r2740 fun x2741 r2742 =>
  un_i r2742 fun x2743 r2744 =>
  un_i r2744 fun x2745 r2746 =>
  un_nil r2746 <|
  chk (decide (Int.ofNat (List.length x2721) = Int.ofNat (List.length x2721)) && true) <|
  out (ival_Rate x2721 x2745) fun r2747 =>
  un_i r2747 fun x2748 r2749 =>
  un_nil r2749 <|
  chk (decide (Int.ofNat (List.length x2719) = Int.ofNat (List.length x2719)) && true && true) <|
  some [.li (x2711), .li (x2713), .li (x2715), .lb (x2717), .li (x2719), .i (x2723), .b (x2725), .i (x2727), .i (x2729), .i (x2731), .i (x2733), .b (x2735), .i (x2737), .i (x2739), .i (x2741), .i (x2743), .i (x2748)]
def feed_Tell (f_got_k : List Int) (f_got_v : List Int) (f_lost_k : List Int) (f_lost_v : List Bool) (f_closed : List Int) (f_r : Int) (f_any : Bool) (f_now : Int) (f_first : Int) (f_newest : Int) (f_count : Int) (f_event : Bool) (f_eventAt : Int) (f_eventN : Int) (f_bytes : Int) (f_since : Int) (now : Int) : Option (List Leaf) :=
  one (minI now 4611686018427387904) fun x2750 =>
  one (maxI f_now x2750) fun x2751 =>
  br (f_any)
    (one (mulI .u64 64 f_bytes) fun x2752 =>
     one (subI .i64 x2751 f_since) fun x2753 =>
     one (maxI x2753 1) fun x2754 =>
     one (wrapI .u64 x2754) fun x2755 =>
     out (fix_MulDiv x2752 1000000 x2755) fun r2756 =>
     un_i r2756 fun x2757 r2758 =>
     un_nil r2758 <|
     chk (decide (Int.ofNat (List.length f_closed) = Int.ofNat (List.length f_closed)) && true && true) <|
     out (feed_Loss f_got_k f_got_v f_lost_k f_lost_v f_closed f_r f_any x2751 f_first f_newest f_count f_event f_eventAt f_eventN 0 x2751) fun r2759 =>
     un_li r2759 fun x2760 r2761 =>
     un_li r2761 fun x2762 r2763 =>
     un_li r2763 fun x2764 r2765 =>
     un_lb r2765 fun x2766 r2767 =>
     un_li r2767 fun x2768 r2769 =>
     un_i r2769 fun x2770 r2771 =>
     un_b r2771 fun x2772 r2773 =>
     un_i r2773 fun x2774 r2775 =>
     un_i r2775 fun x2776 r2777 =>
     un_i r2777 fun x2778 r2779 =>
     un_i r2779 fun x2780 r2781 =>
     un_b r2781 fun x2782 r2783 =>
     un_i r2783 fun x2784 r2785 =>
     un_i r2785 fun x2786 r2787 =>
     un_i r2787 fun x2788 r2789 =>
     un_i r2789 fun x2790 r2791 =>
     un_i r2791 fun x2792 r2793 =>
     un_nil r2793 <|
     chk (decide (Int.ofNat (List.length x2768) = Int.ofNat (List.length x2768)) && true && true) <|
     some [.li (x2760), .li (x2762), .li (x2764), .lb (x2766), .li (x2768), .i (x2770), .b (x2772), .i (x2774), .i (x2776), .i (x2778), .i (x2780), .b (x2782), .i (x2784), .i (x2786), .i (x2788), .i (x2790), .i (x2757), .i (x2792)])
    (chk (decide (Int.ofNat (List.length f_closed) = Int.ofNat (List.length f_closed)) && true && true) <|
     out (feed_Loss f_got_k f_got_v f_lost_k f_lost_v f_closed f_r f_any x2751 f_first f_newest f_count f_event f_eventAt f_eventN f_bytes f_since) fun r2794 =>
     un_li r2794 fun x2795 r2796 =>
     un_li r2796 fun x2797 r2798 =>
     un_li r2798 fun x2799 r2800 =>
     un_lb r2800 fun x2801 r2802 =>
     un_li r2802 fun x2803 r2804 =>
     un_i r2804 fun x2805 r2806 =>
     un_b r2806 fun x2807 r2808 =>
     un_i r2808 fun x2809 r2810 =>
     un_i r2810 fun x2811 r2812 =>
     un_i r2812 fun x2813 r2814 =>
     un_i r2814 fun x2815 r2816 =>
     un_b r2816 fun x2817 r2818 =>
     un_i r2818 fun x2819 r2820 =>
     un_i r2820 fun x2821 r2822 =>
     un_i r2822 fun x2823 r2824 =>
     un_i r2824 fun x2825 r2826 =>
     un_i r2826 fun x2827 r2828 =>
     un_nil r2828 <|
     chk (decide (Int.ofNat (List.length x2803) = Int.ofNat (List.length x2803)) && true && true) <|
     some [.li (x2795), .li (x2797), .li (x2799), .lb (x2801), .li (x2803), .i (x2805), .b (x2807), .i (x2809), .i (x2811), .i (x2813), .i (x2815), .b (x2817), .i (x2819), .i (x2821), .i (x2823), .i (x2825), .i (0), .i (x2827)])
def feed_Lost (f_got_k : List Int) (f_got_v : List Int) (f_lost_k : List Int) (f_lost_v : List Bool) (f_closed : List Int) (f_r : Int) (f_any : Bool) (f_now : Int) (f_first : Int) (f_newest : Int) (f_count : Int) (f_event : Bool) (f_eventAt : Int) (f_eventN : Int) (f_bytes : Int) (f_since : Int) : Option (List Leaf) :=
  some [.i (f_count)]
end Go.Sx.T

