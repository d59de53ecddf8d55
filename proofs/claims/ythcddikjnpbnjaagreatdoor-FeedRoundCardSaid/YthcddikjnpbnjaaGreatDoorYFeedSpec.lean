import Derived.Test.YthcddikjnpbnjaaGreatDoorYIvalSpec
set_option linter.all false
namespace Go.Sx.T
open Go Go.Sx
def feed_New (r : Int) : Option (List Leaf) :=
  one (maxI r 1) fun x549 =>
  one (minI x549 4294967296) fun x550 =>
  chk (decide ((0 : Int) = Int.ofNat (0 : Nat)) && true && true) <|
  some [.li ([]), .li ([]), .li ([]), .lb ([]), .li ([]), .i (x550), .b (false), .i (0), .i (0), .i (0), .i (0), .b (false), .i (0), .i (0), .i (0), .i (0)]
def feed_lose (f_got_k : List Int) (f_got_v : List Int) (f_lost_k : List Int) (f_lost_v : List Bool) (f_closed : List Int) (f_r : Int) (f_any : Bool) (f_now : Int) (f_first : Int) (f_newest : Int) (f_count : Int) (f_event : Bool) (f_eventAt : Int) (f_eventN : Int) (f_bytes : Int) (f_since : Int) (n2 : Int) (at2 : Int) : Option (List Leaf) :=
  one (addI .i64 f_count 1) fun x551 =>
  br (f_event)
    (one (addI .i64 f_eventAt f_r) fun x552 =>
     br (decide (at2 ≤ x552))
       (chk (decide (Int.ofNat (nat_lit 0) + Int.ofNat (List.length f_closed) ≤ Int.ofNat (List.length f_closed))) <|
        chk (decide (Int.ofNat (List.length f_closed) = Int.ofNat (List.length (List.take (Int.toNat (Int.ofNat (List.length f_closed))) (List.drop (Int.toNat (Int.ofNat (nat_lit 0))) f_closed)))) && true && true) <|
        some [.li (f_got_k), .li (f_got_v), .li (mputK f_lost_k n2), .lb (mputV f_lost_k f_lost_v n2 true), .li (List.take (Int.toNat (Int.ofNat (List.length f_closed))) (List.drop (Int.toNat (Int.ofNat 0)) f_closed)), .i (f_r), .b (f_any), .i (f_now), .i (f_first), .i (f_newest), .i (x551), .b (f_event), .i (f_eventAt), .i (f_eventN), .i (f_bytes), .i (f_since)])
       (br (f_event)
          (out (seq_Diff n2 f_eventN) fun r553 =>
           un_i r553 fun x554 r555 =>
           un_nil r555 <|
           one (maxI x554 1) fun x556 =>
           one (wrapI .u64 x556) fun x557 =>
           chk (decide (Int.ofNat (List.length f_closed) = Int.ofNat (List.length f_closed)) && decide (((↑(1 : Nat) : Int) + Int.ofNat (List.length f_closed)) * (↑(nat_lit 8) : Int) ≤ (140737488355328 : Int) ∧ (↑(1 : Nat) : Int) + Int.ofNat (List.length f_closed) ≤ (4611686018427387904 : Int))) <|
           chk (decide (Int.ofNat (List.length f_closed) = Int.ofNat (List.length f_closed)) && decide (((↑(1 : Nat) : Int) + Int.ofNat (List.length f_closed)) * (↑(nat_lit 8) : Int) ≤ (140737488355328 : Int) ∧ (↑(1 : Nat) : Int) + Int.ofNat (List.length f_closed) ≤ (4611686018427387904 : Int))) <|
           one ((↑1 : Int) + Int.ofNat (List.length f_closed)) fun x558 =>
           one (minI x558 8) fun x559 =>
           chk (condSl ((↑(1 : Nat) : Int) + rlOf [[], [Col.int .i64 f_got_k, Col.int .i64 f_got_v], [Col.int .i64 f_lost_k, Col.bool f_lost_v], [Col.int .u64 f_closed]] (3 : Nat)) Option.none (Option.some x559)) <|
           chk (decide (Int.ofNat (nat_lit 0) + x559 ≤ (↑(1 : Nat) : Int) + Int.ofNat (List.length f_closed))) <|
           chk (decide (x559 = Int.ofNat (List.length (List.take (Int.toNat x559) (List.drop (Int.toNat (Int.ofNat (nat_lit 0))) ([x557] ++ f_closed))))) && true && true) <|
           some [.li (f_got_k), .li (f_got_v), .li (mputK f_lost_k n2), .lb (mputV f_lost_k f_lost_v n2 true), .li (List.take (Int.toNat x559) (List.drop (Int.toNat (Int.ofNat 0)) ([x557] ++ f_closed))), .i (f_r), .b (f_any), .i (f_now), .i (f_first), .i (f_newest), .i (x551), .b (true), .i (at2), .i (n2), .i (f_bytes), .i (f_since)])
          (out (seq_Diff n2 f_first) fun r560 =>
           un_i r560 fun x561 r562 =>
           un_nil r562 <|
           one (maxI x561 1) fun x563 =>
           one (wrapI .u64 x563) fun x564 =>
           chk (decide (Int.ofNat (List.length f_closed) = Int.ofNat (List.length f_closed)) && decide (((↑(1 : Nat) : Int) + Int.ofNat (List.length f_closed)) * (↑(nat_lit 8) : Int) ≤ (140737488355328 : Int) ∧ (↑(1 : Nat) : Int) + Int.ofNat (List.length f_closed) ≤ (4611686018427387904 : Int))) <|
           chk (decide (Int.ofNat (List.length f_closed) = Int.ofNat (List.length f_closed)) && decide (((↑(1 : Nat) : Int) + Int.ofNat (List.length f_closed)) * (↑(nat_lit 8) : Int) ≤ (140737488355328 : Int) ∧ (↑(1 : Nat) : Int) + Int.ofNat (List.length f_closed) ≤ (4611686018427387904 : Int))) <|
           one ((↑1 : Int) + Int.ofNat (List.length f_closed)) fun x565 =>
           one (minI x565 8) fun x566 =>
           chk (condSl ((↑(1 : Nat) : Int) + rlOf [[], [Col.int .i64 f_got_k, Col.int .i64 f_got_v], [Col.int .i64 f_lost_k, Col.bool f_lost_v], [Col.int .u64 f_closed]] (3 : Nat)) Option.none (Option.some x566)) <|
           chk (decide (Int.ofNat (nat_lit 0) + x566 ≤ (↑(1 : Nat) : Int) + Int.ofNat (List.length f_closed))) <|
           chk (decide (x566 = Int.ofNat (List.length (List.take (Int.toNat x566) (List.drop (Int.toNat (Int.ofNat (nat_lit 0))) ([x564] ++ f_closed))))) && true && true) <|
           some [.li (f_got_k), .li (f_got_v), .li (mputK f_lost_k n2), .lb (mputV f_lost_k f_lost_v n2 true), .li (List.take (Int.toNat x566) (List.drop (Int.toNat (Int.ofNat 0)) ([x564] ++ f_closed))), .i (f_r), .b (f_any), .i (f_now), .i (f_first), .i (f_newest), .i (x551), .b (true), .i (at2), .i (n2), .i (f_bytes), .i (f_since)])))
    (br (f_event)
       (out (seq_Diff n2 f_eventN) fun r567 =>
        un_i r567 fun x568 r569 =>
        un_nil r569 <|
        one (maxI x568 1) fun x570 =>
        one (wrapI .u64 x570) fun x571 =>
        chk (decide (Int.ofNat (List.length f_closed) = Int.ofNat (List.length f_closed)) && decide (((↑(1 : Nat) : Int) + Int.ofNat (List.length f_closed)) * (↑(nat_lit 8) : Int) ≤ (140737488355328 : Int) ∧ (↑(1 : Nat) : Int) + Int.ofNat (List.length f_closed) ≤ (4611686018427387904 : Int))) <|
        chk (decide (Int.ofNat (List.length f_closed) = Int.ofNat (List.length f_closed)) && decide (((↑(1 : Nat) : Int) + Int.ofNat (List.length f_closed)) * (↑(nat_lit 8) : Int) ≤ (140737488355328 : Int) ∧ (↑(1 : Nat) : Int) + Int.ofNat (List.length f_closed) ≤ (4611686018427387904 : Int))) <|
        one ((↑1 : Int) + Int.ofNat (List.length f_closed)) fun x572 =>
        one (minI x572 8) fun x573 =>
        chk (condSl ((↑(1 : Nat) : Int) + rlOf [[], [Col.int .i64 f_got_k, Col.int .i64 f_got_v], [Col.int .i64 f_lost_k, Col.bool f_lost_v], [Col.int .u64 f_closed]] (3 : Nat)) Option.none (Option.some x573)) <|
        chk (decide (Int.ofNat (nat_lit 0) + x573 ≤ (↑(1 : Nat) : Int) + Int.ofNat (List.length f_closed))) <|
        chk (decide (x573 = Int.ofNat (List.length (List.take (Int.toNat x573) (List.drop (Int.toNat (Int.ofNat (nat_lit 0))) ([x571] ++ f_closed))))) && true && true) <|
        some [.li (f_got_k), .li (f_got_v), .li (mputK f_lost_k n2), .lb (mputV f_lost_k f_lost_v n2 true), .li (List.take (Int.toNat x573) (List.drop (Int.toNat (Int.ofNat 0)) ([x571] ++ f_closed))), .i (f_r), .b (f_any), .i (f_now), .i (f_first), .i (f_newest), .i (x551), .b (true), .i (at2), .i (n2), .i (f_bytes), .i (f_since)])
       (out (seq_Diff n2 f_first) fun r574 =>
        un_i r574 fun x575 r576 =>
        un_nil r576 <|
        one (maxI x575 1) fun x577 =>
        one (wrapI .u64 x577) fun x578 =>
        chk (decide (Int.ofNat (List.length f_closed) = Int.ofNat (List.length f_closed)) && decide (((↑(1 : Nat) : Int) + Int.ofNat (List.length f_closed)) * (↑(nat_lit 8) : Int) ≤ (140737488355328 : Int) ∧ (↑(1 : Nat) : Int) + Int.ofNat (List.length f_closed) ≤ (4611686018427387904 : Int))) <|
        chk (decide (Int.ofNat (List.length f_closed) = Int.ofNat (List.length f_closed)) && decide (((↑(1 : Nat) : Int) + Int.ofNat (List.length f_closed)) * (↑(nat_lit 8) : Int) ≤ (140737488355328 : Int) ∧ (↑(1 : Nat) : Int) + Int.ofNat (List.length f_closed) ≤ (4611686018427387904 : Int))) <|
        one ((↑1 : Int) + Int.ofNat (List.length f_closed)) fun x579 =>
        one (minI x579 8) fun x580 =>
        chk (condSl ((↑(1 : Nat) : Int) + rlOf [[], [Col.int .i64 f_got_k, Col.int .i64 f_got_v], [Col.int .i64 f_lost_k, Col.bool f_lost_v], [Col.int .u64 f_closed]] (3 : Nat)) Option.none (Option.some x580)) <|
        chk (decide (Int.ofNat (nat_lit 0) + x580 ≤ (↑(1 : Nat) : Int) + Int.ofNat (List.length f_closed))) <|
        chk (decide (x580 = Int.ofNat (List.length (List.take (Int.toNat x580) (List.drop (Int.toNat (Int.ofNat (nat_lit 0))) ([x578] ++ f_closed))))) && true && true) <|
        some [.li (f_got_k), .li (f_got_v), .li (mputK f_lost_k n2), .lb (mputV f_lost_k f_lost_v n2 true), .li (List.take (Int.toNat x580) (List.drop (Int.toNat (Int.ofNat 0)) ([x578] ++ f_closed))), .i (f_r), .b (f_any), .i (f_now), .i (f_first), .i (f_newest), .i (x551), .b (true), .i (at2), .i (n2), .i (f_bytes), .i (f_since)]))
def feed_look_4_B  {α : Type} (kx : Nat → List Leaf → Option α) (kr : List Leaf → Option α) (again : List Int → List Int → List Int → List Bool → List Int → List Int → List Int → Int → Bool → Int → Int → Int → Int → Bool → Int → Int → Int → Int → Int → Int → Int → Option α) (f_got_k : List Int) (f_got_v : List Int) (f_lost_k : List Int) (f_lost_v : List Bool) (f_closed : List Int) (at2 : List Int) (l : List Int) (f_r : Int) (f_any : Bool) (f_now : Int) (f_first : Int) (f_newest : Int) (f_count : Int) (f_event : Bool) (f_eventAt : Int) (f_eventN : Int) (f_bytes : Int) (f_since : Int) (t11 : Int) (behind : Int) (next : Int) : Option α :=
  br (decide (t11 < 250))
    (one (subI .i64 0 t11) fun x594 =>
     out (seq_Add f_newest x594) fun r595 =>
     un_i r595 fun x596 r597 =>
     un_nil r597 <|
     out (seq_Less f_first x596) fun r598 =>
     un_b r598 fun x599 r600 =>
     un_nil r600 <|
     br (!x599)
       (chk (decide (Int.ofNat (List.length f_closed) = Int.ofNat (List.length f_closed)) && true && true) <|
        chk (decide (Int.ofNat (List.length at2) = Int.ofNat (List.length at2)) && (decide (Int.ofNat (List.length l) = Int.ofNat (List.length l)) && true)) <|
        kx 0 [.li (f_got_k), .li (f_got_v), .li (f_lost_k), .lb (f_lost_v), .li (f_closed), .li (at2), .li (l), .i (f_r), .b (f_any), .i (f_now), .i (f_first), .i (f_newest), .i (f_count), .b (f_event), .i (f_eventAt), .i (f_eventN), .i (f_bytes), .i (f_since)])
       (one (mget 0 f_got_k f_got_v x596) fun x601 =>
        br (mhas f_got_k x596)
          (one (addI .i64 behind 1) fun x602 =>
           one (addI .i64 t11 1) fun x603 =>
           chk (decide (Int.ofNat (List.length f_closed) = Int.ofNat (List.length f_closed)) && true && true) <|
           chk (decide (Int.ofNat (List.length at2) = Int.ofNat (List.length at2)) && (decide (Int.ofNat (List.length l) = Int.ofNat (List.length l)) && true)) <|
           again (f_got_k) (f_got_v) (f_lost_k) (f_lost_v) (f_closed) (at2) (l) (f_r) (f_any) (f_now) (f_first) (f_newest) (f_count) (f_event) (f_eventAt) (f_eventN) (f_bytes) (f_since) (x603) (x602) (x601))
          (br (!mget false f_lost_k f_lost_v x596)
             (br (decide (behind ≥ 3))
                (chk (decide (Int.ofNat (List.length l) = Int.ofNat (List.length l)) && true && decide ((Int.ofNat (List.length l) + (↑(1 : Nat) : Int)) * (↑(nat_lit 8) : Int) ≤ (140737488355328 : Int) ∧ Int.ofNat (List.length l) + (↑(1 : Nat) : Int) ≤ (4611686018427387904 : Int))) <|
                 chk (decide (Int.ofNat (List.length at2) = Int.ofNat (List.length at2)) && true && decide ((Int.ofNat (List.length at2) + (↑(1 : Nat) : Int)) * (↑(nat_lit 8) : Int) ≤ (140737488355328 : Int) ∧ Int.ofNat (List.length at2) + (↑(1 : Nat) : Int) ≤ (4611686018427387904 : Int))) <|
                 one (addI .i64 t11 1) fun x604 =>
                 chk (decide (Int.ofNat (List.length f_closed) = Int.ofNat (List.length f_closed)) && true && true) <|
                 chk (decide (Int.ofNat (List.length at2) + (↑(1 : Nat) : Int) = Int.ofNat (List.length (at2 ++ [next]))) && (decide (Int.ofNat (List.length l) + (↑(1 : Nat) : Int) = Int.ofNat (List.length (l ++ [x596]))) && true)) <|
                 again (f_got_k) (f_got_v) (f_lost_k) (f_lost_v) (f_closed) (at2 ++ [next]) (l ++ [x596]) (f_r) (f_any) (f_now) (f_first) (f_newest) (f_count) (f_event) (f_eventAt) (f_eventN) (f_bytes) (f_since) (x604) (behind) (next))
                (one (addI .i64 t11 1) fun x605 =>
                 chk (decide (Int.ofNat (List.length f_closed) = Int.ofNat (List.length f_closed)) && true && true) <|
                 chk (decide (Int.ofNat (List.length at2) = Int.ofNat (List.length at2)) && (decide (Int.ofNat (List.length l) = Int.ofNat (List.length l)) && true)) <|
                 again (f_got_k) (f_got_v) (f_lost_k) (f_lost_v) (f_closed) (at2) (l) (f_r) (f_any) (f_now) (f_first) (f_newest) (f_count) (f_event) (f_eventAt) (f_eventN) (f_bytes) (f_since) (x605) (behind) (next)))
             (one (addI .i64 t11 1) fun x606 =>
              chk (decide (Int.ofNat (List.length f_closed) = Int.ofNat (List.length f_closed)) && true && true) <|
              chk (decide (Int.ofNat (List.length at2) = Int.ofNat (List.length at2)) && (decide (Int.ofNat (List.length l) = Int.ofNat (List.length l)) && true)) <|
              again (f_got_k) (f_got_v) (f_lost_k) (f_lost_v) (f_closed) (at2) (l) (f_r) (f_any) (f_now) (f_first) (f_newest) (f_count) (f_event) (f_eventAt) (f_eventN) (f_bytes) (f_since) (x606) (behind) (next)))))
    (chk (decide (Int.ofNat (List.length f_closed) = Int.ofNat (List.length f_closed)) && true && true) <|
     chk (decide (Int.ofNat (List.length at2) = Int.ofNat (List.length at2)) && (decide (Int.ofNat (List.length l) = Int.ofNat (List.length l)) && true)) <|
     kx 0 [.li (f_got_k), .li (f_got_v), .li (f_lost_k), .lb (f_lost_v), .li (f_closed), .li (at2), .li (l), .i (f_r), .b (f_any), .i (f_now), .i (f_first), .i (f_newest), .i (f_count), .b (f_event), .i (f_eventAt), .i (f_eventN), .i (f_bytes), .i (f_since)])
def feed_look_4_L {α : Type} (kx : Nat → List Leaf → Option α) (kr : List Leaf → Option α) : Nat → List Int → List Int → List Int → List Bool → List Int → List Int → List Int → Int → Bool → Int → Int → Int → Int → Bool → Int → Int → Int → Int → Int → Int → Int → Option α
  | 0, _, _, _, _, _, _, _, _, _, _, _, _, _, _, _, _, _, _, _, _, _ => none
  | n + 1, f_got_k, f_got_v, f_lost_k, f_lost_v, f_closed, at2, l, f_r, f_any, f_now, f_first, f_newest, f_count, f_event, f_eventAt, f_eventN, f_bytes, f_since, t11, behind, next => feed_look_4_B  kx kr (feed_look_4_L kx kr n) f_got_k f_got_v f_lost_k f_lost_v f_closed at2 l f_r f_any f_now f_first f_newest f_count f_event f_eventAt f_eventN f_bytes f_since t11 behind next
def feed_look_4_F (L4 : ({β : Type} → (Nat → List Leaf → Option β) → (List Leaf → Option β) → Nat → List Int → List Int → List Int → List Bool → List Int → List Int → List Int → Int → Bool → Int → Int → Int → Int → Bool → Int → Int → Int → Int → Int → Int → Int → Option β)) {α : Type} (n : Nat) (ls : List Leaf) (kx : Nat → List Leaf → Option α) (kr : List Leaf → Option α) : Option α := un_li ls fun f_got_k rr => un_li rr fun f_got_v rr => un_li rr fun f_lost_k rr => un_lb rr fun f_lost_v rr => un_li rr fun f_closed rr => un_li rr fun at2 rr => un_li rr fun l rr => un_i rr fun f_r rr => un_b rr fun f_any rr => un_i rr fun f_now rr => un_i rr fun f_first rr => un_i rr fun f_newest rr => un_i rr fun f_count rr => un_b rr fun f_event rr => un_i rr fun f_eventAt rr => un_i rr fun f_eventN rr => un_i rr fun f_bytes rr => un_i rr fun f_since rr => un_i rr fun t11 rr => un_i rr fun behind rr => un_i rr fun next rr => un_nil rr (L4 kx kr n f_got_k f_got_v f_lost_k f_lost_v f_closed at2 l f_r f_any f_now f_first f_newest f_count f_event f_eventAt f_eventN f_bytes f_since t11 behind next)
def feed_look_15_B  {α : Type} (kx : Nat → List Leaf → Option α) (kr : List Leaf → Option α) (again : List Int → List Int → List Int → List Bool → List Int → List Int → List Int → Int → Bool → Int → Int → Int → Int → Bool → Int → Int → Int → Int → Int → Option α) (f_got_k : List Int) (f_got_v : List Int) (f_lost_k : List Int) (f_lost_v : List Bool) (f_closed : List Int) (at2 : List Int) (l : List Int) (f_r : Int) (f_any : Bool) (f_now : Int) (f_first : Int) (f_newest : Int) (f_count : Int) (f_event : Bool) (f_eventAt : Int) (f_eventN : Int) (f_bytes : Int) (f_since : Int) (i : Int) : Option α :=
  br (decide (i ≥ 0))
    (chk (decide ((0 : Int) ≤ i ∧ i < Int.ofNat (List.length l))) <|
     chk (decide ((0 : Int) ≤ i ∧ i < Int.ofNat (List.length l))) <|
     chk (decide ((0 : Int) ≤ i ∧ i < Int.ofNat (List.length at2))) <|
     chk (decide ((0 : Int) ≤ i ∧ i < Int.ofNat (List.length at2))) <|
     chk (decide (Int.ofNat (List.length f_closed) = Int.ofNat (List.length f_closed)) && true && true) <|
     out (feed_lose f_got_k f_got_v f_lost_k f_lost_v f_closed f_r f_any f_now f_first f_newest f_count f_event f_eventAt f_eventN f_bytes f_since (List.getD l (Int.toNat i) 0) (List.getD at2 (Int.toNat i) 0)) fun r716 =>
     un_li r716 fun x717 r718 =>
     un_li r718 fun x719 r720 =>
     un_li r720 fun x721 r722 =>
     un_lb r722 fun x723 r724 =>
     un_li r724 fun x725 r726 =>
     un_i r726 fun x727 r728 =>
     un_b r728 fun x729 r730 =>
     un_i r730 fun x731 r732 =>
     un_i r732 fun x733 r734 =>
     un_i r734 fun x735 r736 =>
     un_i r736 fun x737 r738 =>
     un_b r738 fun x739 r740 =>
     un_i r740 fun x741 r742 =>
     un_i r742 fun x743 r744 =>
     un_i r744 fun x745 r746 =>
     un_i r746 fun x747 r748 =>
     un_nil r748 <|
     one (subI .i64 i 1) fun x749 =>
     chk (decide (Int.ofNat (List.length x725) = Int.ofNat (List.length x725)) && true && true) <|
     chk (decide (Int.ofNat (List.length at2) = Int.ofNat (List.length at2)) && (decide (Int.ofNat (List.length l) = Int.ofNat (List.length l)) && true)) <|
     again (x717) (x719) (x721) (x723) (x725) (at2) (l) (x727) (x729) (x731) (x733) (x735) (x737) (x739) (x741) (x743) (x745) (x747) (x749))
    (chk (decide (Int.ofNat (List.length f_closed) = Int.ofNat (List.length f_closed)) && true && true) <|
     kx 3 [.li (f_got_k), .li (f_got_v), .li (f_lost_k), .lb (f_lost_v), .li (f_closed), .i (f_r), .b (f_any), .i (f_now), .i (f_first), .i (f_newest), .i (f_count), .b (f_event), .i (f_eventAt), .i (f_eventN), .i (f_bytes), .i (f_since)])
def feed_look_15_L {α : Type} (kx : Nat → List Leaf → Option α) (kr : List Leaf → Option α) : Nat → List Int → List Int → List Int → List Bool → List Int → List Int → List Int → Int → Bool → Int → Int → Int → Int → Bool → Int → Int → Int → Int → Int → Option α
  | 0, _, _, _, _, _, _, _, _, _, _, _, _, _, _, _, _, _, _, _ => none
  | n + 1, f_got_k, f_got_v, f_lost_k, f_lost_v, f_closed, at2, l, f_r, f_any, f_now, f_first, f_newest, f_count, f_event, f_eventAt, f_eventN, f_bytes, f_since, i => feed_look_15_B  kx kr (feed_look_15_L kx kr n) f_got_k f_got_v f_lost_k f_lost_v f_closed at2 l f_r f_any f_now f_first f_newest f_count f_event f_eventAt f_eventN f_bytes f_since i
def feed_look_15_F (L15 : ({β : Type} → (Nat → List Leaf → Option β) → (List Leaf → Option β) → Nat → List Int → List Int → List Int → List Bool → List Int → List Int → List Int → Int → Bool → Int → Int → Int → Int → Bool → Int → Int → Int → Int → Int → Option β)) {α : Type} (n : Nat) (ls : List Leaf) (kx : Nat → List Leaf → Option α) (kr : List Leaf → Option α) : Option α := un_li ls fun f_got_k rr => un_li rr fun f_got_v rr => un_li rr fun f_lost_k rr => un_lb rr fun f_lost_v rr => un_li rr fun f_closed rr => un_li rr fun at2 rr => un_li rr fun l rr => un_i rr fun f_r rr => un_b rr fun f_any rr => un_i rr fun f_now rr => un_i rr fun f_first rr => un_i rr fun f_newest rr => un_i rr fun f_count rr => un_b rr fun f_event rr => un_i rr fun f_eventAt rr => un_i rr fun f_eventN rr => un_i rr fun f_bytes rr => un_i rr fun f_since rr => un_i rr fun i rr => un_nil rr (L15 kx kr n f_got_k f_got_v f_lost_k f_lost_v f_closed at2 l f_r f_any f_now f_first f_newest f_count f_event f_eventAt f_eventN f_bytes f_since i)
def feed_look_d (L4 : ({β : Type} → (Nat → List Leaf → Option β) → (List Leaf → Option β) → Nat → List Int → List Int → List Int → List Bool → List Int → List Int → List Int → Int → Bool → Int → Int → Int → Int → Bool → Int → Int → Int → Int → Int → Int → Int → Option β)) (L15 : ({β : Type} → (Nat → List Leaf → Option β) → (List Leaf → Option β) → Nat → List Int → List Int → List Int → List Bool → List Int → List Int → List Int → Int → Bool → Int → Int → Int → Int → Bool → Int → Int → Int → Int → Int → Option β)) (f_got_k : List Int) (f_got_v : List Int) (f_lost_k : List Int) (f_lost_v : List Bool) (f_closed : List Int) (f_r : Int) (f_any : Bool) (f_now : Int) (f_first : Int) (f_newest : Int) (f_count : Int) (f_event : Bool) (f_eventAt : Int) (f_eventN : Int) (f_bytes : Int) (f_since : Int) : Option (List Leaf) :=
  chk (decide (Int.ofNat (List.length f_closed) = Int.ofNat (List.length f_closed)) && true && true) <|
  chk (decide ((0 : Int) = Int.ofNat (0 : Nat)) && (decide ((0 : Int) = Int.ofNat (0 : Nat)) && true)) <|
  L4
    (fun i750 r751 =>
     br (Nat.beq 0 i750)
       (un_li r751 fun x752 r753 =>
        un_li r753 fun x754 r755 =>
        un_li r755 fun x756 r757 =>
        un_lb r757 fun x758 r759 =>
        un_li r759 fun x760 r761 =>
        un_li r761 fun x762 r763 =>
        un_li r763 fun x764 r765 =>
        un_i r765 fun x766 r767 =>
        un_b r767 fun x768 r769 =>
        un_i r769 fun x770 r771 =>
        un_i r771 fun x772 r773 =>
        un_i r773 fun x774 r775 =>
        un_i r775 fun x776 r777 =>
        un_b r777 fun x778 r779 =>
        un_i r779 fun x780 r781 =>
        un_i r781 fun x782 r783 =>
        un_i r783 fun x784 r785 =>
        un_i r785 fun x786 r787 =>
        un_nil r787 <|
        one (Int.ofNat (List.length x764)) fun x788 =>
        one (subI .i64 x788 1) fun x789 =>
        chk (decide (Int.ofNat (List.length x760) = Int.ofNat (List.length x760)) && true && true) <|
        chk (decide (Int.ofNat (List.length x762) = Int.ofNat (List.length x762)) && (decide (Int.ofNat (List.length x764) = Int.ofNat (List.length x764)) && true)) <|
        L15
          (fun i790 r791 =>
           br (Nat.beq 3 i790)
             (un_li r791 fun x792 r793 =>
              un_li r793 fun x794 r795 =>
              un_li r795 fun x796 r797 =>
              un_lb r797 fun x798 r799 =>
              un_li r799 fun x800 r801 =>
              un_i r801 fun x802 r803 =>
              un_b r803 fun x804 r805 =>
              un_i r805 fun x806 r807 =>
              un_i r807 fun x808 r809 =>
              un_i r809 fun x810 r811 =>
              un_i r811 fun x812 r813 =>
              un_b r813 fun x814 r815 =>
              un_i r815 fun x816 r817 =>
              un_i r817 fun x818 r819 =>
              un_i r819 fun x820 r821 =>
              un_i r821 fun x822 r823 =>
              un_nil r823 <|
              chk (decide (Int.ofNat (List.length x800) = Int.ofNat (List.length x800)) && true && true) <|
              some [.li (x792), .li (x794), .li (x796), .lb (x798), .li (x800), .i (x802), .b (x804), .i (x806), .i (x808), .i (x810), .i (x812), .b (x814), .i (x816), .i (x818), .i (x820), .i (x822)])
             (none))
          (fun r824 =>
           un_nil r824 <|
           none)
          top (x752) (x754) (x756) (x758) (x760) (x762) (x764) (x766) (x768) (x770) (x772) (x774) (x776) (x778) (x780) (x782) (x784) (x786) (x789))
       (none))
    (fun r825 =>
     un_nil r825 <|
     none)
    top (f_got_k) (f_got_v) (f_lost_k) (f_lost_v) (f_closed) ([]) ([]) (f_r) (f_any) (f_now) (f_first) (f_newest) (f_count) (f_event) (f_eventAt) (f_eventN) (f_bytes) (f_since) (0) (0) (0)
def feed_look (f_got_k : List Int) (f_got_v : List Int) (f_lost_k : List Int) (f_lost_v : List Bool) (f_closed : List Int) (f_r : Int) (f_any : Bool) (f_now : Int) (f_first : Int) (f_newest : Int) (f_count : Int) (f_event : Bool) (f_eventAt : Int) (f_eventN : Int) (f_bytes : Int) (f_since : Int) : Option (List Leaf) := feed_look_d @feed_look_4_L @feed_look_15_L f_got_k f_got_v f_lost_k f_lost_v f_closed f_r f_any f_now f_first f_newest f_count f_event f_eventAt f_eventN f_bytes f_since
def feed_Intervals (f_got_k : List Int) (f_got_v : List Int) (f_lost_k : List Int) (f_lost_v : List Bool) (f_closed : List Int) (f_r : Int) (f_any : Bool) (f_now : Int) (f_first : Int) (f_newest : Int) (f_count : Int) (f_event : Bool) (f_eventAt : Int) (f_eventN : Int) (f_bytes : Int) (f_since : Int) : Option (List Leaf) :=
  br (!f_event)
    (none)
    (out (seq_Diff f_newest f_eventN) fun r826 =>
     un_i r826 fun x827 r828 =>
     un_nil r828 <|
     one (maxI x827 0) fun x829 =>
     one (wrapI .u64 x829) fun x830 =>
     chk (decide (Int.ofNat (List.length f_closed) = Int.ofNat (List.length f_closed)) && decide (Int.ofNat (List.length f_closed) * (↑(nat_lit 8) : Int) ≤ (140737488355328 : Int) ∧ Int.ofNat (List.length f_closed) ≤ (4611686018427387904 : Int))) <|
     chk (decide (Int.ofNat (List.length f_closed) = Int.ofNat (List.length f_closed)) && decide (Int.ofNat (List.length f_closed) * (↑(nat_lit 8) : Int) ≤ (140737488355328 : Int) ∧ Int.ofNat (List.length f_closed) ≤ (4611686018427387904 : Int))) <|
     chk (decide (Int.ofNat (List.length f_closed) = Int.ofNat (List.length f_closed)) && true && true) <|
     chk (decide (Int.ofNat (List.length f_closed) = Int.ofNat (List.length f_closed)) && true && true) <|
     some [.li (f_got_k), .li (f_got_v), .li (f_lost_k), .lb (f_lost_v), .li (f_closed), .li (f_closed), .i (f_r), .b (f_any), .i (f_now), .i (f_first), .i (f_newest), .i (f_count), .b (f_event), .i (f_eventAt), .i (f_eventN), .i (f_bytes), .i (f_since), .i (x830)])
def feed_Loss (f_got_k : List Int) (f_got_v : List Int) (f_lost_k : List Int) (f_lost_v : List Bool) (f_closed : List Int) (f_r : Int) (f_any : Bool) (f_now : Int) (f_first : Int) (f_newest : Int) (f_count : Int) (f_event : Bool) (f_eventAt : Int) (f_eventN : Int) (f_bytes : Int) (f_since : Int) : Option (List Leaf) :=
  chk (decide (Int.ofNat (List.length f_closed) = Int.ofNat (List.length f_closed)) && true && true) <|
  out (feed_Intervals f_got_k f_got_v f_lost_k f_lost_v f_closed f_r f_any f_now f_first f_newest f_count f_event f_eventAt f_eventN f_bytes f_since) fun r831 =>
  un_li r831 fun x832 r833 =>
  un_li r833 fun x834 r835 =>
  un_li r835 fun x836 r837 =>
  un_lb r837 fun x838 r839 =>
  un_li r839 fun x840 r841 =>
  un_li r841 fun x842 r843 =>
  un_i r843 fun x844 r845 =>
  un_b r845 fun x846 r847 =>
  un_i r847 fun x848 r849 =>
  un_i r849 fun x850 r851 =>
  un_i r851 fun x852 r853 =>
  un_i r853 fun x854 r855 =>
  un_b r855 fun x856 r857 =>
  un_i r857 fun x858 r859 =>
  un_i r859 fun x860 r861 =>
  un_i r861 fun x862 r863 =>
  un_i r863 fun x864 r865 =>
  un_i r865 fun x866 r867 =>
  un_nil r867 <|
  one (x866) fun x868 =>
  chk (decide (Int.ofNat (List.length x842) = Int.ofNat (List.length x842)) && true) <|
  out (ival_Rate x842 x868) fun r869 =>
  un_i r869 fun x870 r871 =>
  un_nil r871 <|
  chk (decide (Int.ofNat (List.length x840) = Int.ofNat (List.length x840)) && true && true) <|
  some [.li (x832), .li (x834), .li (x836), .lb (x838), .li (x840), .i (x844), .b (x846), .i (x848), .i (x850), .i (x852), .i (x854), .b (x856), .i (x858), .i (x860), .i (x862), .i (x864), .i (x870)]
def feed_Tell (f_got_k : List Int) (f_got_v : List Int) (f_lost_k : List Int) (f_lost_v : List Bool) (f_closed : List Int) (f_r : Int) (f_any : Bool) (f_now : Int) (f_first : Int) (f_newest : Int) (f_count : Int) (f_event : Bool) (f_eventAt : Int) (f_eventN : Int) (f_bytes : Int) (f_since : Int) (now : Int) : Option (List Leaf) :=
  one (minI now 4611686018427387904) fun x872 =>
  one (maxI f_now x872) fun x873 =>
  br (f_any)
    (one (mulI .u64 64 f_bytes) fun x874 =>
     one (subI .i64 x873 f_since) fun x875 =>
     one (maxI x875 1) fun x876 =>
     one (wrapI .u64 x876) fun x877 =>
     out (fix_MulDiv x874 1000000 x877) fun r878 =>
     un_i r878 fun x879 r880 =>
     un_nil r880 <|
     chk (decide (Int.ofNat (List.length f_closed) = Int.ofNat (List.length f_closed)) && true && true) <|
     out (feed_Loss f_got_k f_got_v f_lost_k f_lost_v f_closed f_r f_any x873 f_first f_newest f_count f_event f_eventAt f_eventN 0 x873) fun r881 =>
     un_li r881 fun x882 r883 =>
     un_li r883 fun x884 r885 =>
     un_li r885 fun x886 r887 =>
     un_lb r887 fun x888 r889 =>
     un_li r889 fun x890 r891 =>
     un_i r891 fun x892 r893 =>
     un_b r893 fun x894 r895 =>
     un_i r895 fun x896 r897 =>
     un_i r897 fun x898 r899 =>
     un_i r899 fun x900 r901 =>
     un_i r901 fun x902 r903 =>
     un_b r903 fun x904 r905 =>
     un_i r905 fun x906 r907 =>
     un_i r907 fun x908 r909 =>
     un_i r909 fun x910 r911 =>
     un_i r911 fun x912 r913 =>
     un_i r913 fun x914 r915 =>
     un_nil r915 <|
     chk (decide (Int.ofNat (List.length x890) = Int.ofNat (List.length x890)) && true && true) <|
     some [.li (x882), .li (x884), .li (x886), .lb (x888), .li (x890), .i (x892), .b (x894), .i (x896), .i (x898), .i (x900), .i (x902), .b (x904), .i (x906), .i (x908), .i (x910), .i (x912), .i (x879), .i (x914)])
    (chk (decide (Int.ofNat (List.length f_closed) = Int.ofNat (List.length f_closed)) && true && true) <|
     out (feed_Loss f_got_k f_got_v f_lost_k f_lost_v f_closed f_r f_any x873 f_first f_newest f_count f_event f_eventAt f_eventN f_bytes f_since) fun r916 =>
     un_li r916 fun x917 r918 =>
     un_li r918 fun x919 r920 =>
     un_li r920 fun x921 r922 =>
     un_lb r922 fun x923 r924 =>
     un_li r924 fun x925 r926 =>
     un_i r926 fun x927 r928 =>
     un_b r928 fun x929 r930 =>
     un_i r930 fun x931 r932 =>
     un_i r932 fun x933 r934 =>
     un_i r934 fun x935 r936 =>
     un_i r936 fun x937 r938 =>
     un_b r938 fun x939 r940 =>
     un_i r940 fun x941 r942 =>
     un_i r942 fun x943 r944 =>
     un_i r944 fun x945 r946 =>
     un_i r946 fun x947 r948 =>
     un_i r948 fun x949 r950 =>
     un_nil r950 <|
     chk (decide (Int.ofNat (List.length x925) = Int.ofNat (List.length x925)) && true && true) <|
     some [.li (x917), .li (x919), .li (x921), .lb (x923), .li (x925), .i (x927), .b (x929), .i (x931), .i (x933), .i (x935), .i (x937), .b (x939), .i (x941), .i (x943), .i (x945), .i (x947), .i (0), .i (x949)])
def feed_Lost (f_got_k : List Int) (f_got_v : List Int) (f_lost_k : List Int) (f_lost_v : List Bool) (f_closed : List Int) (f_r : Int) (f_any : Bool) (f_now : Int) (f_first : Int) (f_newest : Int) (f_count : Int) (f_event : Bool) (f_eventAt : Int) (f_eventN : Int) (f_bytes : Int) (f_since : Int) : Option (List Leaf) :=
  some [.i (f_count)]
end Go.Sx.T

