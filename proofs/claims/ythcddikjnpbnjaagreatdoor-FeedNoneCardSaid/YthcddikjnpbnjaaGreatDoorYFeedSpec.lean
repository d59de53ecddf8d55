import Derived.Test.YthcddikjnpbnjaaGreatDoorYIvalSpec
set_option linter.all false
namespace Go.Sx.T
open Go Go.Sx
def feed_New (r : Int) : Option (List Leaf) :=
  one (maxI r 1) fun x523 =>
  one (minI x523 4294967296) fun x524 =>
  chk (decide ((0 : Int) = Int.ofNat (0 : Nat)) && true && true) <|
  some [.li ([]), .li ([]), .li ([]), .lb ([]), .li ([]), .i (x524), .b (false), .i (0), .i (0), .i (0), .i (0), .b (false), .i (0), .i (0), .i (0), .i (0)]
def feed_lose (f_got_k : List Int) (f_got_v : List Int) (f_lost_k : List Int) (f_lost_v : List Bool) (f_closed : List Int) (f_r : Int) (f_any : Bool) (f_now : Int) (f_first : Int) (f_newest : Int) (f_count : Int) (f_event : Bool) (f_eventAt : Int) (f_eventN : Int) (f_bytes : Int) (f_since : Int) (n2 : Int) (at2 : Int) : Option (List Leaf) :=
  one (addI .i64 f_count 1) fun x525 =>
  br (f_event)
    (one (addI .i64 f_eventAt f_r) fun x526 =>
     br (decide (at2 ≤ x526))
       (chk (decide (Int.ofNat (List.length f_closed) = Int.ofNat (List.length f_closed)) && true && true) <|
        some [.li (f_got_k), .li (f_got_v), .li (mputK f_lost_k n2), .lb (mputV f_lost_k f_lost_v n2 true), .li (f_closed), .i (f_r), .b (f_any), .i (f_now), .i (f_first), .i (f_newest), .i (x525), .b (f_event), .i (f_eventAt), .i (f_eventN), .i (f_bytes), .i (f_since)])
       (br (f_event)
          (out (seq_Diff n2 f_eventN) fun r527 =>
           un_i r527 fun x528 r529 =>
           un_nil r529 <|
           one (maxI x528 1) fun x530 =>
           one (wrapI .u64 x530) fun x531 =>
           chk (decide (Int.ofNat (List.length f_closed) = Int.ofNat (List.length f_closed)) && decide (((↑(1 : Nat) : Int) + Int.ofNat (List.length f_closed)) * (↑(nat_lit 8) : Int) ≤ (140737488355328 : Int) ∧ (↑(1 : Nat) : Int) + Int.ofNat (List.length f_closed) ≤ (4611686018427387904 : Int))) <|
           chk (decide (Int.ofNat (List.length f_closed) = Int.ofNat (List.length f_closed)) && decide (((↑(1 : Nat) : Int) + Int.ofNat (List.length f_closed)) * (↑(nat_lit 8) : Int) ≤ (140737488355328 : Int) ∧ (↑(1 : Nat) : Int) + Int.ofNat (List.length f_closed) ≤ (4611686018427387904 : Int))) <|
           one ((↑1 : Int) + Int.ofNat (List.length f_closed)) fun x532 =>
           one (minI x532 8) fun x533 =>
           chk (condSl ((↑(1 : Nat) : Int) + rlOf [[], [Col.int .i64 f_got_k, Col.int .i64 f_got_v], [Col.int .i64 f_lost_k, Col.bool f_lost_v], [Col.int .u64 f_closed]] (3 : Nat)) Option.none (Option.some x533)) <|
           chk (decide (x533 = Int.ofNat (List.length ([x531] ++ f_closed))) && true && true) <|
           some [.li (f_got_k), .li (f_got_v), .li (mputK f_lost_k n2), .lb (mputV f_lost_k f_lost_v n2 true), .li ([x531] ++ f_closed), .i (f_r), .b (f_any), .i (f_now), .i (f_first), .i (f_newest), .i (x525), .b (true), .i (at2), .i (n2), .i (f_bytes), .i (f_since)])
          (out (seq_Diff n2 f_first) fun r534 =>
           un_i r534 fun x535 r536 =>
           un_nil r536 <|
           one (maxI x535 1) fun x537 =>
           one (wrapI .u64 x537) fun x538 =>
           chk (decide (Int.ofNat (List.length f_closed) = Int.ofNat (List.length f_closed)) && decide (((↑(1 : Nat) : Int) + Int.ofNat (List.length f_closed)) * (↑(nat_lit 8) : Int) ≤ (140737488355328 : Int) ∧ (↑(1 : Nat) : Int) + Int.ofNat (List.length f_closed) ≤ (4611686018427387904 : Int))) <|
           chk (decide (Int.ofNat (List.length f_closed) = Int.ofNat (List.length f_closed)) && decide (((↑(1 : Nat) : Int) + Int.ofNat (List.length f_closed)) * (↑(nat_lit 8) : Int) ≤ (140737488355328 : Int) ∧ (↑(1 : Nat) : Int) + Int.ofNat (List.length f_closed) ≤ (4611686018427387904 : Int))) <|
           one ((↑1 : Int) + Int.ofNat (List.length f_closed)) fun x539 =>
           one (minI x539 8) fun x540 =>
           chk (condSl ((↑(1 : Nat) : Int) + rlOf [[], [Col.int .i64 f_got_k, Col.int .i64 f_got_v], [Col.int .i64 f_lost_k, Col.bool f_lost_v], [Col.int .u64 f_closed]] (3 : Nat)) Option.none (Option.some x540)) <|
           chk (decide (x540 = Int.ofNat (List.length ([x538] ++ f_closed))) && true && true) <|
           some [.li (f_got_k), .li (f_got_v), .li (mputK f_lost_k n2), .lb (mputV f_lost_k f_lost_v n2 true), .li ([x538] ++ f_closed), .i (f_r), .b (f_any), .i (f_now), .i (f_first), .i (f_newest), .i (x525), .b (true), .i (at2), .i (n2), .i (f_bytes), .i (f_since)])))
    (br (f_event)
       (out (seq_Diff n2 f_eventN) fun r541 =>
        un_i r541 fun x542 r543 =>
        un_nil r543 <|
        one (maxI x542 1) fun x544 =>
        one (wrapI .u64 x544) fun x545 =>
        chk (decide (Int.ofNat (List.length f_closed) = Int.ofNat (List.length f_closed)) && decide (((↑(1 : Nat) : Int) + Int.ofNat (List.length f_closed)) * (↑(nat_lit 8) : Int) ≤ (140737488355328 : Int) ∧ (↑(1 : Nat) : Int) + Int.ofNat (List.length f_closed) ≤ (4611686018427387904 : Int))) <|
        chk (decide (Int.ofNat (List.length f_closed) = Int.ofNat (List.length f_closed)) && decide (((↑(1 : Nat) : Int) + Int.ofNat (List.length f_closed)) * (↑(nat_lit 8) : Int) ≤ (140737488355328 : Int) ∧ (↑(1 : Nat) : Int) + Int.ofNat (List.length f_closed) ≤ (4611686018427387904 : Int))) <|
        one ((↑1 : Int) + Int.ofNat (List.length f_closed)) fun x546 =>
        one (minI x546 8) fun x547 =>
        chk (condSl ((↑(1 : Nat) : Int) + rlOf [[], [Col.int .i64 f_got_k, Col.int .i64 f_got_v], [Col.int .i64 f_lost_k, Col.bool f_lost_v], [Col.int .u64 f_closed]] (3 : Nat)) Option.none (Option.some x547)) <|
        chk (decide (x547 = Int.ofNat (List.length ([x545] ++ f_closed))) && true && true) <|
        some [.li (f_got_k), .li (f_got_v), .li (mputK f_lost_k n2), .lb (mputV f_lost_k f_lost_v n2 true), .li ([x545] ++ f_closed), .i (f_r), .b (f_any), .i (f_now), .i (f_first), .i (f_newest), .i (x525), .b (true), .i (at2), .i (n2), .i (f_bytes), .i (f_since)])
       (out (seq_Diff n2 f_first) fun r548 =>
        un_i r548 fun x549 r550 =>
        un_nil r550 <|
        one (maxI x549 1) fun x551 =>
        one (wrapI .u64 x551) fun x552 =>
        chk (decide (Int.ofNat (List.length f_closed) = Int.ofNat (List.length f_closed)) && decide (((↑(1 : Nat) : Int) + Int.ofNat (List.length f_closed)) * (↑(nat_lit 8) : Int) ≤ (140737488355328 : Int) ∧ (↑(1 : Nat) : Int) + Int.ofNat (List.length f_closed) ≤ (4611686018427387904 : Int))) <|
        chk (decide (Int.ofNat (List.length f_closed) = Int.ofNat (List.length f_closed)) && decide (((↑(1 : Nat) : Int) + Int.ofNat (List.length f_closed)) * (↑(nat_lit 8) : Int) ≤ (140737488355328 : Int) ∧ (↑(1 : Nat) : Int) + Int.ofNat (List.length f_closed) ≤ (4611686018427387904 : Int))) <|
        one ((↑1 : Int) + Int.ofNat (List.length f_closed)) fun x553 =>
        one (minI x553 8) fun x554 =>
        chk (condSl ((↑(1 : Nat) : Int) + rlOf [[], [Col.int .i64 f_got_k, Col.int .i64 f_got_v], [Col.int .i64 f_lost_k, Col.bool f_lost_v], [Col.int .u64 f_closed]] (3 : Nat)) Option.none (Option.some x554)) <|
        chk (decide (x554 = Int.ofNat (List.length ([x552] ++ f_closed))) && true && true) <|
        some [.li (f_got_k), .li (f_got_v), .li (mputK f_lost_k n2), .lb (mputV f_lost_k f_lost_v n2 true), .li ([x552] ++ f_closed), .i (f_r), .b (f_any), .i (f_now), .i (f_first), .i (f_newest), .i (x525), .b (true), .i (at2), .i (n2), .i (f_bytes), .i (f_since)]))
def feed_look_4_B  {α : Type} (kx : Nat → List Leaf → Option α) (kr : List Leaf → Option α) (again : List Int → List Int → List Int → List Bool → List Int → List Int → List Int → Int → Bool → Int → Int → Int → Int → Bool → Int → Int → Int → Int → Int → Int → Int → Option α) (f_got_k : List Int) (f_got_v : List Int) (f_lost_k : List Int) (f_lost_v : List Bool) (f_closed : List Int) (at2 : List Int) (l : List Int) (f_r : Int) (f_any : Bool) (f_now : Int) (f_first : Int) (f_newest : Int) (f_count : Int) (f_event : Bool) (f_eventAt : Int) (f_eventN : Int) (f_bytes : Int) (f_since : Int) (t11 : Int) (behind : Int) (next : Int) : Option α :=
  br (decide (t11 < 250))
    (one (subI .i64 0 t11) fun x568 =>
     out (seq_Add f_newest x568) fun r569 =>
     un_i r569 fun x570 r571 =>
     un_nil r571 <|
     out (seq_Less f_first x570) fun r572 =>
     un_b r572 fun x573 r574 =>
     un_nil r574 <|
     br (!x573)
       (chk (decide (Int.ofNat (List.length f_closed) = Int.ofNat (List.length f_closed)) && true && true) <|
        chk (decide (Int.ofNat (List.length at2) = Int.ofNat (List.length at2)) && (decide (Int.ofNat (List.length l) = Int.ofNat (List.length l)) && true)) <|
        kx 0 [.li (f_got_k), .li (f_got_v), .li (f_lost_k), .lb (f_lost_v), .li (f_closed), .li (at2), .li (l), .i (f_r), .b (f_any), .i (f_now), .i (f_first), .i (f_newest), .i (f_count), .b (f_event), .i (f_eventAt), .i (f_eventN), .i (f_bytes), .i (f_since)])
       (one (mget 0 f_got_k f_got_v x570) fun x575 =>
        br (mhas f_got_k x570)
          (one (addI .i64 behind 1) fun x576 =>
           one (addI .i64 t11 1) fun x577 =>
           chk (decide (Int.ofNat (List.length f_closed) = Int.ofNat (List.length f_closed)) && true && true) <|
           chk (decide (Int.ofNat (List.length at2) = Int.ofNat (List.length at2)) && (decide (Int.ofNat (List.length l) = Int.ofNat (List.length l)) && true)) <|
           again (f_got_k) (f_got_v) (f_lost_k) (f_lost_v) (f_closed) (at2) (l) (f_r) (f_any) (f_now) (f_first) (f_newest) (f_count) (f_event) (f_eventAt) (f_eventN) (f_bytes) (f_since) (x577) (x576) (x575))
          (br (!mget false f_lost_k f_lost_v x570)
             (br (decide (behind ≥ 3))
                (chk (decide (Int.ofNat (List.length l) = Int.ofNat (List.length l)) && true && decide ((Int.ofNat (List.length l) + (↑(1 : Nat) : Int)) * (↑(nat_lit 8) : Int) ≤ (140737488355328 : Int) ∧ Int.ofNat (List.length l) + (↑(1 : Nat) : Int) ≤ (4611686018427387904 : Int))) <|
                 chk (decide (Int.ofNat (List.length at2) = Int.ofNat (List.length at2)) && true && decide ((Int.ofNat (List.length at2) + (↑(1 : Nat) : Int)) * (↑(nat_lit 8) : Int) ≤ (140737488355328 : Int) ∧ Int.ofNat (List.length at2) + (↑(1 : Nat) : Int) ≤ (4611686018427387904 : Int))) <|
                 one (addI .i64 t11 1) fun x578 =>
                 chk (decide (Int.ofNat (List.length f_closed) = Int.ofNat (List.length f_closed)) && true && true) <|
                 chk (decide (Int.ofNat (List.length at2) + (↑(1 : Nat) : Int) = Int.ofNat (List.length (at2 ++ [next]))) && (decide (Int.ofNat (List.length l) + (↑(1 : Nat) : Int) = Int.ofNat (List.length (l ++ [x570]))) && true)) <|
                 again (f_got_k) (f_got_v) (f_lost_k) (f_lost_v) (f_closed) (at2 ++ [next]) (l ++ [x570]) (f_r) (f_any) (f_now) (f_first) (f_newest) (f_count) (f_event) (f_eventAt) (f_eventN) (f_bytes) (f_since) (x578) (behind) (next))
                (one (addI .i64 t11 1) fun x579 =>
                 chk (decide (Int.ofNat (List.length f_closed) = Int.ofNat (List.length f_closed)) && true && true) <|
                 chk (decide (Int.ofNat (List.length at2) = Int.ofNat (List.length at2)) && (decide (Int.ofNat (List.length l) = Int.ofNat (List.length l)) && true)) <|
                 again (f_got_k) (f_got_v) (f_lost_k) (f_lost_v) (f_closed) (at2) (l) (f_r) (f_any) (f_now) (f_first) (f_newest) (f_count) (f_event) (f_eventAt) (f_eventN) (f_bytes) (f_since) (x579) (behind) (next)))
             (one (addI .i64 t11 1) fun x580 =>
              chk (decide (Int.ofNat (List.length f_closed) = Int.ofNat (List.length f_closed)) && true && true) <|
              chk (decide (Int.ofNat (List.length at2) = Int.ofNat (List.length at2)) && (decide (Int.ofNat (List.length l) = Int.ofNat (List.length l)) && true)) <|
              again (f_got_k) (f_got_v) (f_lost_k) (f_lost_v) (f_closed) (at2) (l) (f_r) (f_any) (f_now) (f_first) (f_newest) (f_count) (f_event) (f_eventAt) (f_eventN) (f_bytes) (f_since) (x580) (behind) (next)))))
    (chk (decide (Int.ofNat (List.length f_closed) = Int.ofNat (List.length f_closed)) && true && true) <|
     chk (decide (Int.ofNat (List.length at2) = Int.ofNat (List.length at2)) && (decide (Int.ofNat (List.length l) = Int.ofNat (List.length l)) && true)) <|
     kx 0 [.li (f_got_k), .li (f_got_v), .li (f_lost_k), .lb (f_lost_v), .li (f_closed), .li (at2), .li (l), .i (f_r), .b (f_any), .i (f_now), .i (f_first), .i (f_newest), .i (f_count), .b (f_event), .i (f_eventAt), .i (f_eventN), .i (f_bytes), .i (f_since)])
def feed_look_4_L {α : Type} (kx : Nat → List Leaf → Option α) (kr : List Leaf → Option α) : Nat → List Int → List Int → List Int → List Bool → List Int → List Int → List Int → Int → Bool → Int → Int → Int → Int → Bool → Int → Int → Int → Int → Int → Int → Int → Option α
  | 0, _, _, _, _, _, _, _, _, _, _, _, _, _, _, _, _, _, _, _, _, _ => none
  | n + 1, f_got_k, f_got_v, f_lost_k, f_lost_v, f_closed, at2, l, f_r, f_any, f_now, f_first, f_newest, f_count, f_event, f_eventAt, f_eventN, f_bytes, f_since, t11, behind, next => feed_look_4_B  kx kr (feed_look_4_L kx kr n) f_got_k f_got_v f_lost_k f_lost_v f_closed at2 l f_r f_any f_now f_first f_newest f_count f_event f_eventAt f_eventN f_bytes f_since t11 behind next
def feed_look_4_F (L4 : ({β : Type} → (Nat → List Leaf → Option β) → (List Leaf → Option β) → Nat → List Int → List Int → List Int → List Bool → List Int → List Int → List Int → Int → Bool → Int → Int → Int → Int → Bool → Int → Int → Int → Int → Int → Int → Int → Option β)) {α : Type} (n : Nat) (ls : List Leaf) (kx : Nat → List Leaf → Option α) (kr : List Leaf → Option α) : Option α := un_li ls fun f_got_k rr => un_li rr fun f_got_v rr => un_li rr fun f_lost_k rr => un_lb rr fun f_lost_v rr => un_li rr fun f_closed rr => un_li rr fun at2 rr => un_li rr fun l rr => un_i rr fun f_r rr => un_b rr fun f_any rr => un_i rr fun f_now rr => un_i rr fun f_first rr => un_i rr fun f_newest rr => un_i rr fun f_count rr => un_b rr fun f_event rr => un_i rr fun f_eventAt rr => un_i rr fun f_eventN rr => un_i rr fun f_bytes rr => un_i rr fun f_since rr => un_i rr fun t11 rr => un_i rr fun behind rr => un_i rr fun next rr => un_nil rr (L4 kx kr n f_got_k f_got_v f_lost_k f_lost_v f_closed at2 l f_r f_any f_now f_first f_newest f_count f_event f_eventAt f_eventN f_bytes f_since t11 behind next)
def feed_look_15_B  {α : Type} (kx : Nat → List Leaf → Option α) (kr : List Leaf → Option α) (again : List Int → List Int → List Int → List Bool → List Int → List Int → List Int → Int → Bool → Int → Int → Int → Int → Bool → Int → Int → Int → Int → Int → Option α) (f_got_k : List Int) (f_got_v : List Int) (f_lost_k : List Int) (f_lost_v : List Bool) (f_closed : List Int) (at2 : List Int) (l : List Int) (f_r : Int) (f_any : Bool) (f_now : Int) (f_first : Int) (f_newest : Int) (f_count : Int) (f_event : Bool) (f_eventAt : Int) (f_eventN : Int) (f_bytes : Int) (f_since : Int) (i : Int) : Option α :=
  br (decide (i ≥ 0))
    (chk (decide ((0 : Int) ≤ i ∧ i < Int.ofNat (List.length l))) <|
     chk (decide ((0 : Int) ≤ i ∧ i < Int.ofNat (List.length l))) <|
     chk (decide ((0 : Int) ≤ i ∧ i < Int.ofNat (List.length at2))) <|
     chk (decide ((0 : Int) ≤ i ∧ i < Int.ofNat (List.length at2))) <|
     chk (decide (Int.ofNat (List.length f_closed) = Int.ofNat (List.length f_closed)) && true && true) <|
     out (feed_lose f_got_k f_got_v f_lost_k f_lost_v f_closed f_r f_any f_now f_first f_newest f_count f_event f_eventAt f_eventN f_bytes f_since (List.getD l (Int.toNat i) 0) (List.getD at2 (Int.toNat i) 0)) fun r690 =>
     un_li r690 fun x691 r692 =>
     un_li r692 fun x693 r694 =>
     un_li r694 fun x695 r696 =>
     un_lb r696 fun x697 r698 =>
     un_li r698 fun x699 r700 =>
     un_i r700 fun x701 r702 =>
     un_b r702 fun x703 r704 =>
     un_i r704 fun x705 r706 =>
     un_i r706 fun x707 r708 =>
     un_i r708 fun x709 r710 =>
     un_i r710 fun x711 r712 =>
     un_b r712 fun x713 r714 =>
     un_i r714 fun x715 r716 =>
     un_i r716 fun x717 r718 =>
     un_i r718 fun x719 r720 =>
     un_i r720 fun x721 r722 =>
     un_nil r722 <|
     one (subI .i64 i 1) fun x723 =>
     chk (decide (Int.ofNat (List.length x699) = Int.ofNat (List.length x699)) && true && true) <|
     chk (decide (Int.ofNat (List.length at2) = Int.ofNat (List.length at2)) && (decide (Int.ofNat (List.length l) = Int.ofNat (List.length l)) && true)) <|
     again (x691) (x693) (x695) (x697) (x699) (at2) (l) (x701) (x703) (x705) (x707) (x709) (x711) (x713) (x715) (x717) (x719) (x721) (x723))
    (chk (decide (Int.ofNat (List.length f_closed) = Int.ofNat (List.length f_closed)) && true && true) <|
     kx 3 [.li (f_got_k), .li (f_got_v), .li (f_lost_k), .lb (f_lost_v), .li (f_closed), .i (f_r), .b (f_any), .i (f_now), .i (f_first), .i (f_newest), .i (f_count), .b (f_event), .i (f_eventAt), .i (f_eventN), .i (f_bytes), .i (f_since)])
def feed_look_15_L {α : Type} (kx : Nat → List Leaf → Option α) (kr : List Leaf → Option α) : Nat → List Int → List Int → List Int → List Bool → List Int → List Int → List Int → Int → Bool → Int → Int → Int → Int → Bool → Int → Int → Int → Int → Int → Option α
  | 0, _, _, _, _, _, _, _, _, _, _, _, _, _, _, _, _, _, _, _ => none
  | n + 1, f_got_k, f_got_v, f_lost_k, f_lost_v, f_closed, at2, l, f_r, f_any, f_now, f_first, f_newest, f_count, f_event, f_eventAt, f_eventN, f_bytes, f_since, i => feed_look_15_B  kx kr (feed_look_15_L kx kr n) f_got_k f_got_v f_lost_k f_lost_v f_closed at2 l f_r f_any f_now f_first f_newest f_count f_event f_eventAt f_eventN f_bytes f_since i
def feed_look_15_F (L15 : ({β : Type} → (Nat → List Leaf → Option β) → (List Leaf → Option β) → Nat → List Int → List Int → List Int → List Bool → List Int → List Int → List Int → Int → Bool → Int → Int → Int → Int → Bool → Int → Int → Int → Int → Int → Option β)) {α : Type} (n : Nat) (ls : List Leaf) (kx : Nat → List Leaf → Option α) (kr : List Leaf → Option α) : Option α := un_li ls fun f_got_k rr => un_li rr fun f_got_v rr => un_li rr fun f_lost_k rr => un_lb rr fun f_lost_v rr => un_li rr fun f_closed rr => un_li rr fun at2 rr => un_li rr fun l rr => un_i rr fun f_r rr => un_b rr fun f_any rr => un_i rr fun f_now rr => un_i rr fun f_first rr => un_i rr fun f_newest rr => un_i rr fun f_count rr => un_b rr fun f_event rr => un_i rr fun f_eventAt rr => un_i rr fun f_eventN rr => un_i rr fun f_bytes rr => un_i rr fun f_since rr => un_i rr fun i rr => un_nil rr (L15 kx kr n f_got_k f_got_v f_lost_k f_lost_v f_closed at2 l f_r f_any f_now f_first f_newest f_count f_event f_eventAt f_eventN f_bytes f_since i)
def feed_look_d (L4 : ({β : Type} → (Nat → List Leaf → Option β) → (List Leaf → Option β) → Nat → List Int → List Int → List Int → List Bool → List Int → List Int → List Int → Int → Bool → Int → Int → Int → Int → Bool → Int → Int → Int → Int → Int → Int → Int → Option β)) (L15 : ({β : Type} → (Nat → List Leaf → Option β) → (List Leaf → Option β) → Nat → List Int → List Int → List Int → List Bool → List Int → List Int → List Int → Int → Bool → Int → Int → Int → Int → Bool → Int → Int → Int → Int → Int → Option β)) (f_got_k : List Int) (f_got_v : List Int) (f_lost_k : List Int) (f_lost_v : List Bool) (f_closed : List Int) (f_r : Int) (f_any : Bool) (f_now : Int) (f_first : Int) (f_newest : Int) (f_count : Int) (f_event : Bool) (f_eventAt : Int) (f_eventN : Int) (f_bytes : Int) (f_since : Int) : Option (List Leaf) :=
  chk (decide (Int.ofNat (List.length f_closed) = Int.ofNat (List.length f_closed)) && true && true) <|
  chk (decide ((0 : Int) = Int.ofNat (0 : Nat)) && (decide ((0 : Int) = Int.ofNat (0 : Nat)) && true)) <|
  L4
    (fun i724 r725 =>
     br (Nat.beq 0 i724)
       (un_li r725 fun x726 r727 =>
        un_li r727 fun x728 r729 =>
        un_li r729 fun x730 r731 =>
        un_lb r731 fun x732 r733 =>
        un_li r733 fun x734 r735 =>
        un_li r735 fun x736 r737 =>
        un_li r737 fun x738 r739 =>
        un_i r739 fun x740 r741 =>
        un_b r741 fun x742 r743 =>
        un_i r743 fun x744 r745 =>
        un_i r745 fun x746 r747 =>
        un_i r747 fun x748 r749 =>
        un_i r749 fun x750 r751 =>
        un_b r751 fun x752 r753 =>
        un_i r753 fun x754 r755 =>
        un_i r755 fun x756 r757 =>
        un_i r757 fun x758 r759 =>
        un_i r759 fun x760 r761 =>
        un_nil r761 <|
        one (Int.ofNat (List.length x738)) fun x762 =>
        one (subI .i64 x762 1) fun x763 =>
        chk (decide (Int.ofNat (List.length x734) = Int.ofNat (List.length x734)) && true && true) <|
        chk (decide (Int.ofNat (List.length x736) = Int.ofNat (List.length x736)) && (decide (Int.ofNat (List.length x738) = Int.ofNat (List.length x738)) && true)) <|
        L15
          (fun i764 r765 =>
           br (Nat.beq 3 i764)
             (un_li r765 fun x766 r767 =>
              un_li r767 fun x768 r769 =>
              un_li r769 fun x770 r771 =>
              un_lb r771 fun x772 r773 =>
              un_li r773 fun x774 r775 =>
              un_i r775 fun x776 r777 =>
              un_b r777 fun x778 r779 =>
              un_i r779 fun x780 r781 =>
              un_i r781 fun x782 r783 =>
              un_i r783 fun x784 r785 =>
              un_i r785 fun x786 r787 =>
              un_b r787 fun x788 r789 =>
              un_i r789 fun x790 r791 =>
              un_i r791 fun x792 r793 =>
              un_i r793 fun x794 r795 =>
              un_i r795 fun x796 r797 =>
              un_nil r797 <|
              chk (decide (Int.ofNat (List.length x774) = Int.ofNat (List.length x774)) && true && true) <|
              some [.li (x766), .li (x768), .li (x770), .lb (x772), .li (x774), .i (x776), .b (x778), .i (x780), .i (x782), .i (x784), .i (x786), .b (x788), .i (x790), .i (x792), .i (x794), .i (x796)])
             (none))
          (fun r798 =>
           un_nil r798 <|
           none)
          top (x726) (x728) (x730) (x732) (x734) (x736) (x738) (x740) (x742) (x744) (x746) (x748) (x750) (x752) (x754) (x756) (x758) (x760) (x763))
       (none))
    (fun r799 =>
     un_nil r799 <|
     none)
    top (f_got_k) (f_got_v) (f_lost_k) (f_lost_v) (f_closed) ([]) ([]) (f_r) (f_any) (f_now) (f_first) (f_newest) (f_count) (f_event) (f_eventAt) (f_eventN) (f_bytes) (f_since) (0) (0) (0)
def feed_look (f_got_k : List Int) (f_got_v : List Int) (f_lost_k : List Int) (f_lost_v : List Bool) (f_closed : List Int) (f_r : Int) (f_any : Bool) (f_now : Int) (f_first : Int) (f_newest : Int) (f_count : Int) (f_event : Bool) (f_eventAt : Int) (f_eventN : Int) (f_bytes : Int) (f_since : Int) : Option (List Leaf) := feed_look_d @feed_look_4_L @feed_look_15_L f_got_k f_got_v f_lost_k f_lost_v f_closed f_r f_any f_now f_first f_newest f_count f_event f_eventAt f_eventN f_bytes f_since
def feed_Intervals (f_got_k : List Int) (f_got_v : List Int) (f_lost_k : List Int) (f_lost_v : List Bool) (f_closed : List Int) (f_r : Int) (f_any : Bool) (f_now : Int) (f_first : Int) (f_newest : Int) (f_count : Int) (f_event : Bool) (f_eventAt : Int) (f_eventN : Int) (f_bytes : Int) (f_since : Int) : Option (List Leaf) :=
  br (!f_event)
    (none)
    (out (seq_Diff f_newest f_eventN) fun r800 =>
     un_i r800 fun x801 r802 =>
     un_nil r802 <|
     one (maxI x801 0) fun x803 =>
     one (wrapI .u64 x803) fun x804 =>
     chk (decide (Int.ofNat (List.length f_closed) = Int.ofNat (List.length f_closed)) && decide (Int.ofNat (List.length f_closed) * (↑(nat_lit 8) : Int) ≤ (140737488355328 : Int) ∧ Int.ofNat (List.length f_closed) ≤ (4611686018427387904 : Int))) <|
     chk (decide (Int.ofNat (List.length f_closed) = Int.ofNat (List.length f_closed)) && decide (Int.ofNat (List.length f_closed) * (↑(nat_lit 8) : Int) ≤ (140737488355328 : Int) ∧ Int.ofNat (List.length f_closed) ≤ (4611686018427387904 : Int))) <|
     chk (decide (Int.ofNat (List.length f_closed) = Int.ofNat (List.length f_closed)) && true && true) <|
     chk (decide (Int.ofNat (List.length f_closed) = Int.ofNat (List.length f_closed)) && true && true) <|
     some [.li (f_got_k), .li (f_got_v), .li (f_lost_k), .lb (f_lost_v), .li (f_closed), .li (f_closed), .i (f_r), .b (f_any), .i (f_now), .i (f_first), .i (f_newest), .i (f_count), .b (f_event), .i (f_eventAt), .i (f_eventN), .i (f_bytes), .i (f_since), .i (x804)])
def feed_Loss (f_got_k : List Int) (f_got_v : List Int) (f_lost_k : List Int) (f_lost_v : List Bool) (f_closed : List Int) (f_r : Int) (f_any : Bool) (f_now : Int) (f_first : Int) (f_newest : Int) (f_count : Int) (f_event : Bool) (f_eventAt : Int) (f_eventN : Int) (f_bytes : Int) (f_since : Int) : Option (List Leaf) :=
  chk (decide (Int.ofNat (List.length f_closed) = Int.ofNat (List.length f_closed)) && true && true) <|
  out (feed_Intervals f_got_k f_got_v f_lost_k f_lost_v f_closed f_r f_any f_now f_first f_newest f_count f_event f_eventAt f_eventN f_bytes f_since) fun r805 =>
  un_li r805 fun x806 r807 =>
  un_li r807 fun x808 r809 =>
  un_li r809 fun x810 r811 =>
  un_lb r811 fun x812 r813 =>
  un_li r813 fun x814 r815 =>
  un_li r815 fun x816 r817 =>
  un_i r817 fun x818 r819 =>
  un_b r819 fun x820 r821 =>
  un_i r821 fun x822 r823 =>
  un_i r823 fun x824 r825 =>
  un_i r825 fun x826 r827 =>
  un_i r827 fun x828 r829 =>
  un_b r829 fun x830 r831 =>
  un_i r831 fun x832 r833 =>
  un_i r833 fun x834 r835 =>
  un_i r835 fun x836 r837 =>
  un_i r837 fun x838 r839 =>
  un_i r839 fun x840 r841 =>
  un_nil r841 <|
  chk (decide (Int.ofNat (List.length x816) = Int.ofNat (List.length x816)) && true) <|
  out (ival_Rate x816 x840) fun r842 =>
  un_i r842 fun x843 r844 =>
  un_nil r844 <|
  chk (decide (Int.ofNat (List.length x814) = Int.ofNat (List.length x814)) && true && true) <|
  some [.li (x806), .li (x808), .li (x810), .lb (x812), .li (x814), .i (x818), .b (x820), .i (x822), .i (x824), .i (x826), .i (x828), .b (x830), .i (x832), .i (x834), .i (x836), .i (x838), .i (x843)]
def feed_Tell (f_got_k : List Int) (f_got_v : List Int) (f_lost_k : List Int) (f_lost_v : List Bool) (f_closed : List Int) (f_r : Int) (f_any : Bool) (f_now : Int) (f_first : Int) (f_newest : Int) (f_count : Int) (f_event : Bool) (f_eventAt : Int) (f_eventN : Int) (f_bytes : Int) (f_since : Int) (now : Int) : Option (List Leaf) :=
  one (minI now 4611686018427387904) fun x845 =>
  one (maxI f_now x845) fun x846 =>
  br (f_any)
    (one (mulI .u64 64 f_bytes) fun x847 =>
     one (subI .i64 x846 f_since) fun x848 =>
     one (maxI x848 1) fun x849 =>
     one (wrapI .u64 x849) fun x850 =>
     out (fix_MulDiv x847 1000000 x850) fun r851 =>
     un_i r851 fun x852 r853 =>
     un_nil r853 <|
     chk (decide (Int.ofNat (List.length f_closed) = Int.ofNat (List.length f_closed)) && true && true) <|
     out (feed_Loss f_got_k f_got_v f_lost_k f_lost_v f_closed f_r f_any x846 f_first f_newest f_count f_event f_eventAt f_eventN 0 x846) fun r854 =>
     un_li r854 fun x855 r856 =>
     un_li r856 fun x857 r858 =>
     un_li r858 fun x859 r860 =>
     un_lb r860 fun x861 r862 =>
     un_li r862 fun x863 r864 =>
     un_i r864 fun x865 r866 =>
     un_b r866 fun x867 r868 =>
     un_i r868 fun x869 r870 =>
     un_i r870 fun x871 r872 =>
     un_i r872 fun x873 r874 =>
     un_i r874 fun x875 r876 =>
     un_b r876 fun x877 r878 =>
     un_i r878 fun x879 r880 =>
     un_i r880 fun x881 r882 =>
     un_i r882 fun x883 r884 =>
     un_i r884 fun x885 r886 =>
     un_i r886 fun x887 r888 =>
     un_nil r888 <|
     chk (decide (Int.ofNat (List.length x863) = Int.ofNat (List.length x863)) && true && true) <|
     some [.li (x855), .li (x857), .li (x859), .lb (x861), .li (x863), .i (x865), .b (x867), .i (x869), .i (x871), .i (x873), .i (x875), .b (x877), .i (x879), .i (x881), .i (x883), .i (x885), .i (x852), .i (x887)])
    (chk (decide (Int.ofNat (List.length f_closed) = Int.ofNat (List.length f_closed)) && true && true) <|
     out (feed_Loss f_got_k f_got_v f_lost_k f_lost_v f_closed f_r f_any x846 f_first f_newest f_count f_event f_eventAt f_eventN f_bytes f_since) fun r889 =>
     un_li r889 fun x890 r891 =>
     un_li r891 fun x892 r893 =>
     un_li r893 fun x894 r895 =>
     un_lb r895 fun x896 r897 =>
     un_li r897 fun x898 r899 =>
     un_i r899 fun x900 r901 =>
     un_b r901 fun x902 r903 =>
     un_i r903 fun x904 r905 =>
     un_i r905 fun x906 r907 =>
     un_i r907 fun x908 r909 =>
     un_i r909 fun x910 r911 =>
     un_b r911 fun x912 r913 =>
     un_i r913 fun x914 r915 =>
     un_i r915 fun x916 r917 =>
     un_i r917 fun x918 r919 =>
     un_i r919 fun x920 r921 =>
     un_i r921 fun x922 r923 =>
     un_nil r923 <|
     chk (decide (Int.ofNat (List.length x898) = Int.ofNat (List.length x898)) && true && true) <|
     some [.li (x890), .li (x892), .li (x894), .lb (x896), .li (x898), .i (x900), .b (x902), .i (x904), .i (x906), .i (x908), .i (x910), .b (x912), .i (x914), .i (x916), .i (x918), .i (x920), .i (0), .i (x922)])
def feed_Lost (f_got_k : List Int) (f_got_v : List Int) (f_lost_k : List Int) (f_lost_v : List Bool) (f_closed : List Int) (f_r : Int) (f_any : Bool) (f_now : Int) (f_first : Int) (f_newest : Int) (f_count : Int) (f_event : Bool) (f_eventAt : Int) (f_eventN : Int) (f_bytes : Int) (f_since : Int) : Option (List Leaf) :=
  some [.i (f_count)]
end Go.Sx.T

