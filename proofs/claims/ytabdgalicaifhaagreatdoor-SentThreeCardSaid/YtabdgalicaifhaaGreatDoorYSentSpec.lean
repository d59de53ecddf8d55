import Derived.Test.YtabdgalicaifhaaGreatDoorYVecSpec
set_option linter.all false
namespace Go.Sx.T
open Go Go.Sx
def sent_New  : Option (List Leaf) :=
  chk (decide ((0 : Int) = Int.ofNat (0 : Nat)) && true && true) <|
  some [.li ([]), .li ([]), .li ([]), .i (0), .b (false)]
def sent_Put (s_l0 : List Int) (s_l1 : List Int) (s_l2 : List Int) (s_last : Int) (s_any : Bool) (n2 : Int) (now : Int) : Option (List Leaf) :=
  out (seq_Of n2) fun r559 =>
  un_i r559 fun x560 r561 =>
  un_nil r561 <|
  br (decide (now < 0))
    (chk (decide (Int.ofNat (List.length s_l0) = Int.ofNat (List.length s_l0)) && true && true) <|
     some [.li (s_l0), .li (s_l1), .li (s_l2), .i (s_last), .b (s_any), .b (false)])
    (br (s_any)
       (out (seq_Less s_last x560) fun r562 =>
        un_b r562 fun x563 r564 =>
        un_nil r564 <|
        br (!x563)
          (chk (decide (Int.ofNat (List.length s_l0) = Int.ofNat (List.length s_l0)) && true && true) <|
           some [.li (s_l0), .li (s_l1), .li (s_l2), .i (s_last), .b (s_any), .b (false)])
          (one (Int.ofNat (List.length s_l0)) fun x565 =>
           br (decide (x565 ≥ 200))
             (chk (decide ((0 : Int) ≤ (0 : Int) ∧ (0 : Int) < Int.ofNat (List.length s_l0))) <|
              chk (decide ((0 : Int) ≤ Int.ofNat (nat_lit 0) ∧ Int.ofNat (nat_lit 0) < Int.ofNat (List.length s_l0))) <|
              br (List.getD s_l2 (Int.toNat (Int.ofNat 0)) 0 == 0)
                (chk (decide (Int.ofNat (List.length s_l0) = Int.ofNat (List.length s_l0)) && true && true) <|
                 some [.li (s_l0), .li (s_l1), .li (s_l2), .i (s_last), .b (s_any), .b (false)])
                (chk (condSl (rlOf [[], [Col.int .u64 s_l0, Col.int .i64 s_l1, Col.int .i64 s_l2]] (1 : Nat)) (Option.some (1 : Int)) Option.none) <|
                 one (minI now 4611686018427387904) fun x566 =>
                 chk (decide (Int.ofNat (nat_lit 1) + lenSl (rlOf [[], [Col.int .u64 s_l0, Col.int .i64 s_l1, Col.int .i64 s_l2]] (1 : Nat)) (Option.some (1 : Int)) Option.none ≤ Int.ofNat (List.length s_l0)) && (decide (lenSl (rlOf [[], [Col.int .u64 s_l0, Col.int .i64 s_l1, Col.int .i64 s_l2]] (1 : Nat)) (Option.some (1 : Int)) Option.none = lenSl (rlOf [[], [Col.int .u64 s_l0, Col.int .i64 s_l1, Col.int .i64 s_l2]] (1 : Nat)) (Option.some (1 : Int)) Option.none) && true && decide ((lenSl (rlOf [[], [Col.int .u64 s_l0, Col.int .i64 s_l1, Col.int .i64 s_l2]] (1 : Nat)) (Option.some (1 : Int)) Option.none + (↑(1 : Nat) : Int)) * (↑(nat_lit 24) : Int) ≤ (140737488355328 : Int) ∧ lenSl (rlOf [[], [Col.int .u64 s_l0, Col.int .i64 s_l1, Col.int .i64 s_l2]] (1 : Nat)) (Option.some (1 : Int)) Option.none + (↑(1 : Nat) : Int) ≤ (4611686018427387904 : Int)))) <|
                 chk (decide (lenSl (rlOf [[], [Col.int .u64 s_l0, Col.int .i64 s_l1, Col.int .i64 s_l2]] (1 : Nat)) (Option.some (1 : Int)) Option.none + (↑(1 : Nat) : Int) = Int.ofNat (List.length (List.take (Int.toNat (lenSl (rlOf [[], [Col.int .u64 s_l0, Col.int .i64 s_l1, Col.int .i64 s_l2]] (1 : Nat)) (Option.some (1 : Int)) Option.none)) (List.drop (Int.toNat (Int.ofNat (nat_lit 1))) s_l0) ++ [x560]))) && true && true) <|
                 some [.li (List.take (Int.toNat (lenSl (rlOf [[], [Col.int .u64 s_l0, Col.int .i64 s_l1, Col.int .i64 s_l2]] 1) (Option.some 1) Option.none)) (List.drop (Int.toNat (Int.ofNat 1)) s_l0) ++ [x560]), .li (List.take (Int.toNat (lenSl (rlOf [[], [Col.int .u64 s_l0, Col.int .i64 s_l1, Col.int .i64 s_l2]] 1) (Option.some 1) Option.none)) (List.drop (Int.toNat (Int.ofNat 1)) s_l1) ++ [x566]), .li (List.take (Int.toNat (lenSl (rlOf [[], [Col.int .u64 s_l0, Col.int .i64 s_l1, Col.int .i64 s_l2]] 1) (Option.some 1) Option.none)) (List.drop (Int.toNat (Int.ofNat 1)) s_l2) ++ [0]), .i (x560), .b (true), .b (true)]))
             (one (minI now 4611686018427387904) fun x567 =>
              chk (decide (Int.ofNat (List.length s_l0) = Int.ofNat (List.length s_l0)) && true && decide ((Int.ofNat (List.length s_l0) + (↑(1 : Nat) : Int)) * (↑(nat_lit 24) : Int) ≤ (140737488355328 : Int) ∧ Int.ofNat (List.length s_l0) + (↑(1 : Nat) : Int) ≤ (4611686018427387904 : Int))) <|
              chk (decide (Int.ofNat (List.length s_l0) + (↑(1 : Nat) : Int) = Int.ofNat (List.length (s_l0 ++ [x560]))) && true && true) <|
              some [.li (s_l0 ++ [x560]), .li (s_l1 ++ [x567]), .li (s_l2 ++ [0]), .i (x560), .b (true), .b (true)])))
       (one (Int.ofNat (List.length s_l0)) fun x568 =>
        br (decide (x568 ≥ 200))
          (chk (decide ((0 : Int) ≤ (0 : Int) ∧ (0 : Int) < Int.ofNat (List.length s_l0))) <|
           chk (decide ((0 : Int) ≤ Int.ofNat (nat_lit 0) ∧ Int.ofNat (nat_lit 0) < Int.ofNat (List.length s_l0))) <|
           br (List.getD s_l2 (Int.toNat (Int.ofNat 0)) 0 == 0)
             (chk (decide (Int.ofNat (List.length s_l0) = Int.ofNat (List.length s_l0)) && true && true) <|
              some [.li (s_l0), .li (s_l1), .li (s_l2), .i (s_last), .b (s_any), .b (false)])
             (chk (condSl (rlOf [[], [Col.int .u64 s_l0, Col.int .i64 s_l1, Col.int .i64 s_l2]] (1 : Nat)) (Option.some (1 : Int)) Option.none) <|
              one (minI now 4611686018427387904) fun x569 =>
              chk (decide (Int.ofNat (nat_lit 1) + lenSl (rlOf [[], [Col.int .u64 s_l0, Col.int .i64 s_l1, Col.int .i64 s_l2]] (1 : Nat)) (Option.some (1 : Int)) Option.none ≤ Int.ofNat (List.length s_l0)) && (decide (lenSl (rlOf [[], [Col.int .u64 s_l0, Col.int .i64 s_l1, Col.int .i64 s_l2]] (1 : Nat)) (Option.some (1 : Int)) Option.none = lenSl (rlOf [[], [Col.int .u64 s_l0, Col.int .i64 s_l1, Col.int .i64 s_l2]] (1 : Nat)) (Option.some (1 : Int)) Option.none) && true && decide ((lenSl (rlOf [[], [Col.int .u64 s_l0, Col.int .i64 s_l1, Col.int .i64 s_l2]] (1 : Nat)) (Option.some (1 : Int)) Option.none + (↑(1 : Nat) : Int)) * (↑(nat_lit 24) : Int) ≤ (140737488355328 : Int) ∧ lenSl (rlOf [[], [Col.int .u64 s_l0, Col.int .i64 s_l1, Col.int .i64 s_l2]] (1 : Nat)) (Option.some (1 : Int)) Option.none + (↑(1 : Nat) : Int) ≤ (4611686018427387904 : Int)))) <|
              chk (decide (lenSl (rlOf [[], [Col.int .u64 s_l0, Col.int .i64 s_l1, Col.int .i64 s_l2]] (1 : Nat)) (Option.some (1 : Int)) Option.none + (↑(1 : Nat) : Int) = Int.ofNat (List.length (List.take (Int.toNat (lenSl (rlOf [[], [Col.int .u64 s_l0, Col.int .i64 s_l1, Col.int .i64 s_l2]] (1 : Nat)) (Option.some (1 : Int)) Option.none)) (List.drop (Int.toNat (Int.ofNat (nat_lit 1))) s_l0) ++ [x560]))) && true && true) <|
              some [.li (List.take (Int.toNat (lenSl (rlOf [[], [Col.int .u64 s_l0, Col.int .i64 s_l1, Col.int .i64 s_l2]] 1) (Option.some 1) Option.none)) (List.drop (Int.toNat (Int.ofNat 1)) s_l0) ++ [x560]), .li (List.take (Int.toNat (lenSl (rlOf [[], [Col.int .u64 s_l0, Col.int .i64 s_l1, Col.int .i64 s_l2]] 1) (Option.some 1) Option.none)) (List.drop (Int.toNat (Int.ofNat 1)) s_l1) ++ [x569]), .li (List.take (Int.toNat (lenSl (rlOf [[], [Col.int .u64 s_l0, Col.int .i64 s_l1, Col.int .i64 s_l2]] 1) (Option.some 1) Option.none)) (List.drop (Int.toNat (Int.ofNat 1)) s_l2) ++ [0]), .i (x560), .b (true), .b (true)]))
          (one (minI now 4611686018427387904) fun x570 =>
           chk (decide (Int.ofNat (List.length s_l0) = Int.ofNat (List.length s_l0)) && true && decide ((Int.ofNat (List.length s_l0) + (↑(1 : Nat) : Int)) * (↑(nat_lit 24) : Int) ≤ (140737488355328 : Int) ∧ Int.ofNat (List.length s_l0) + (↑(1 : Nat) : Int) ≤ (4611686018427387904 : Int))) <|
           chk (decide (Int.ofNat (List.length s_l0) + (↑(1 : Nat) : Int) = Int.ofNat (List.length (s_l0 ++ [x560]))) && true && true) <|
           some [.li (s_l0 ++ [x560]), .li (s_l1 ++ [x570]), .li (s_l2 ++ [0]), .i (x560), .b (true), .b (true)])))
def sent_told (states : List Int) (ack : Int) (n2 : Int) : Option (List Leaf) :=
  out (seq_Diff ack n2) fun r571 =>
  un_i r571 fun x572 r573 =>
  un_nil r573 <|
  br (decide (x572 ≥ 0))
    (one (Int.ofNat (List.length states)) fun x574 =>
     br (decide (x572 < x574))
       (chk (decide ((0 : Int) ≤ x572 ∧ x572 < Int.ofNat (List.length states))) <|
        chk (decide ((0 : Int) ≤ x572 ∧ x572 < Int.ofNat (List.length states))) <|
        some [.i (List.getD states (Int.toNat x572) 0)])
       (some [.i (3)]))
    (some [.i (3)])
def sent_lose_4_B  {α : Type} (kx : Nat → List Leaf → Option α) (kr : List Leaf → Option α) (again : List Int → List Int → List Int → List Int → Int → Bool → Int → Int → Option α) (s_l0 : List Int) (s_l1 : List Int) (s_l2 : List Int) (l : List Int) (s_last : Int) (s_any : Bool) (i : Int) (behind : Int) : Option α :=
  br (decide (i ≥ 0))
    (chk (decide ((0 : Int) ≤ i ∧ i < Int.ofNat (List.length s_l0))) <|
     chk (decide ((0 : Int) ≤ i ∧ i < Int.ofNat (List.length s_l0))) <|
     br (List.getD s_l2 (Int.toNat i) 0 == 1)
       (one (addI .i64 behind 1) fun x582 =>
        one (subI .i64 i 1) fun x583 =>
        chk (decide (Int.ofNat (List.length s_l0) = Int.ofNat (List.length s_l0)) && true && true) <|
        chk (decide (Int.ofNat (List.length l) = Int.ofNat (List.length l)) && true) <|
        again (s_l0) (s_l1) (s_l2) (l) (s_last) (s_any) (x583) (x582))
       (chk (decide ((0 : Int) ≤ i ∧ i < Int.ofNat (List.length s_l0))) <|
        br (List.getD s_l2 (Int.toNat i) 0 == 0)
          (br (decide (behind ≥ 3))
             (chk (decide ((0 : Int) ≤ i ∧ i < Int.ofNat (List.length s_l0))) <|
              chk (decide ((0 : Int) ≤ i ∧ i < Int.ofNat (List.length s_l0))) <|
              chk (decide (Int.ofNat (List.length l) = Int.ofNat (List.length l)) && decide (((↑(1 : Nat) : Int) + Int.ofNat (List.length l)) * (↑(nat_lit 8) : Int) ≤ (140737488355328 : Int) ∧ (↑(1 : Nat) : Int) + Int.ofNat (List.length l) ≤ (4611686018427387904 : Int))) <|
              one (subI .i64 i 1) fun x584 =>
              chk (decide (Int.ofNat (List.length s_l0) = Int.ofNat (List.length s_l0)) && true && true) <|
              chk (decide ((↑(1 : Nat) : Int) + Int.ofNat (List.length l) = Int.ofNat (List.length ([List.getD s_l0 (Int.toNat i) (0 : Int)] ++ l))) && true) <|
              again (s_l0) (s_l1) (List.set s_l2 (Int.toNat i) 2) ([List.getD s_l0 (Int.toNat i) (0 : Int)] ++ l) (s_last) (s_any) (x584) (behind))
             (one (subI .i64 i 1) fun x585 =>
              chk (decide (Int.ofNat (List.length s_l0) = Int.ofNat (List.length s_l0)) && true && true) <|
              chk (decide (Int.ofNat (List.length l) = Int.ofNat (List.length l)) && true) <|
              again (s_l0) (s_l1) (s_l2) (l) (s_last) (s_any) (x585) (behind)))
          (one (subI .i64 i 1) fun x586 =>
           chk (decide (Int.ofNat (List.length s_l0) = Int.ofNat (List.length s_l0)) && true && true) <|
           chk (decide (Int.ofNat (List.length l) = Int.ofNat (List.length l)) && true) <|
           again (s_l0) (s_l1) (s_l2) (l) (s_last) (s_any) (x586) (behind))))
    (chk (decide (Int.ofNat (List.length s_l0) = Int.ofNat (List.length s_l0)) && true && true) <|
     chk (decide (Int.ofNat (List.length l) = Int.ofNat (List.length l)) && true) <|
     kx 0 [.li (s_l0), .li (s_l1), .li (s_l2), .li (l), .i (s_last), .b (s_any)])
def sent_lose_4_L {α : Type} (kx : Nat → List Leaf → Option α) (kr : List Leaf → Option α) : Nat → List Int → List Int → List Int → List Int → Int → Bool → Int → Int → Option α
  | 0, _, _, _, _, _, _, _, _ => none
  | n + 1, s_l0, s_l1, s_l2, l, s_last, s_any, i, behind => sent_lose_4_B  kx kr (sent_lose_4_L kx kr n) s_l0 s_l1 s_l2 l s_last s_any i behind
def sent_lose_4_F (L4 : ({β : Type} → (Nat → List Leaf → Option β) → (List Leaf → Option β) → Nat → List Int → List Int → List Int → List Int → Int → Bool → Int → Int → Option β)) {α : Type} (n : Nat) (ls : List Leaf) (kx : Nat → List Leaf → Option α) (kr : List Leaf → Option α) : Option α := un_li ls fun s_l0 rr => un_li rr fun s_l1 rr => un_li rr fun s_l2 rr => un_li rr fun l rr => un_i rr fun s_last rr => un_b rr fun s_any rr => un_i rr fun i rr => un_i rr fun behind rr => un_nil rr (L4 kx kr n s_l0 s_l1 s_l2 l s_last s_any i behind)
def sent_lose_d (L4 : ({β : Type} → (Nat → List Leaf → Option β) → (List Leaf → Option β) → Nat → List Int → List Int → List Int → List Int → Int → Bool → Int → Int → Option β)) (s_l0 : List Int) (s_l1 : List Int) (s_l2 : List Int) (s_last : Int) (s_any : Bool) : Option (List Leaf) :=
  one (Int.ofNat (List.length s_l0)) fun x587 =>
  one (subI .i64 x587 1) fun x588 =>
  chk (decide (Int.ofNat (List.length s_l0) = Int.ofNat (List.length s_l0)) && true && true) <|
  chk (decide ((0 : Int) = Int.ofNat (0 : Nat)) && true) <|
  L4
    (fun i589 r590 =>
     br (Nat.beq 0 i589)
       (un_li r590 fun x591 r592 =>
        un_li r592 fun x593 r594 =>
        un_li r594 fun x595 r596 =>
        un_li r596 fun x597 r598 =>
        un_i r598 fun x599 r600 =>
        un_b r600 fun x601 r602 =>
        un_nil r602 <|
        chk (decide (Int.ofNat (List.length x591) = Int.ofNat (List.length x591)) && true && true) <|
        chk (decide (Int.ofNat (List.length x597) = Int.ofNat (List.length x597)) && true) <|
        some [.li (x591), .li (x593), .li (x595), .li (x597), .i (x599), .b (x601)])
       (none))
    (fun r603 =>
     un_nil r603 <|
     none)
    top (s_l0) (s_l1) (s_l2) ([]) (s_last) (s_any) (x588) (0)
def sent_lose (s_l0 : List Int) (s_l1 : List Int) (s_l2 : List Int) (s_last : Int) (s_any : Bool) : Option (List Leaf) := sent_lose_d @sent_lose_4_L s_l0 s_l1 s_l2 s_last s_any
def sent_Hear_6_B  {α : Type} (kx : Nat → List Leaf → Option α) (kr : List Leaf → Option α) (again : List Int → List Int → List Int → List Int → List Int → List Int → List Int → List Int → List Int → List Int → List Int → List Int → Int → Bool → Int → Int → Int → Int → Int → Int → Int → Int → Option α) (s_l0 : List Int) (s_l1 : List Int) (s_l2 : List Int) (cells0 : List Int) (cells1 : List Int) (h_Got : List Int) (h_Late : List Int) (h_Lost : List Int) (states : List Int) (t8_Got : List Int) (t8_Late : List Int) (t8_Lost : List Int) (s_last : Int) (s_any : Bool) (h_Marks : Int) (h_Rtt : Int) (t8_Marks : Int) (t8_Rtt : Int) (t30 : Int) (now : Int) (ack : Int) (t29 : Int) : Option α :=
  br (decide (t30 < t29))
    (chk (decide ((0 : Int) ≤ t30 ∧ t30 < Int.ofNat (List.length s_l0))) <|
     chk (decide ((0 : Int) ≤ t30 ∧ t30 < Int.ofNat (List.length s_l0))) <|
     chk (decide (Int.ofNat (List.length states) = Int.ofNat (List.length states)) && true) <|
     out (sent_told states ack (List.getD s_l0 (Int.toNat t30) 0)) fun r629 =>
     un_i r629 fun x630 r631 =>
     un_nil r631 <|
     br (x630 == 3)
       (one (addI .i64 t30 1) fun x632 =>
        chk (decide (Int.ofNat (List.length s_l0) = Int.ofNat (List.length s_l0)) && true && (decide (Int.ofNat (List.length h_Got) = Int.ofNat (List.length h_Got)) && (decide (Int.ofNat (List.length h_Late) = Int.ofNat (List.length h_Late)) && (decide (Int.ofNat (List.length h_Lost) = Int.ofNat (List.length h_Lost)) && true)) && (decide (Int.ofNat (List.length t8_Got) = Int.ofNat (List.length t8_Got)) && (decide (Int.ofNat (List.length t8_Late) = Int.ofNat (List.length t8_Late)) && (decide (Int.ofNat (List.length t8_Lost) = Int.ofNat (List.length t8_Lost)) && true)) && true))) <|
        chk (decide (Int.ofNat (List.length states) = Int.ofNat (List.length states)) && true) <|
        again (s_l0) (s_l1) (s_l2) (cells0) (cells1) (h_Got) (h_Late) (h_Lost) (states) (t8_Got) (t8_Late) (t8_Lost) (s_last) (s_any) (h_Marks) (h_Rtt) (t8_Marks) (t8_Rtt) (x632) (now) (ack) (t29))
       (chk (decide ((0 : Int) ≤ t30 ∧ t30 < Int.ofNat (List.length s_l0))) <|
        br (List.getD s_l2 (Int.toNat t30) 0 == 1)
          (one (addI .i64 t30 1) fun x633 =>
           chk (decide (Int.ofNat (List.length s_l0) = Int.ofNat (List.length s_l0)) && true && (decide (Int.ofNat (List.length h_Got) = Int.ofNat (List.length h_Got)) && (decide (Int.ofNat (List.length h_Late) = Int.ofNat (List.length h_Late)) && (decide (Int.ofNat (List.length h_Lost) = Int.ofNat (List.length h_Lost)) && true)) && (decide (Int.ofNat (List.length t8_Got) = Int.ofNat (List.length t8_Got)) && (decide (Int.ofNat (List.length t8_Late) = Int.ofNat (List.length t8_Late)) && (decide (Int.ofNat (List.length t8_Lost) = Int.ofNat (List.length t8_Lost)) && true)) && true))) <|
           chk (decide (Int.ofNat (List.length states) = Int.ofNat (List.length states)) && true) <|
           again (s_l0) (s_l1) (s_l2) (cells0) (cells1) (h_Got) (h_Late) (h_Lost) (states) (t8_Got) (t8_Late) (t8_Lost) (s_last) (s_any) (h_Marks) (h_Rtt) (t8_Marks) (t8_Rtt) (x633) (now) (ack) (t29))
          (br (x630 == 1)
             (one (addI .i64 h_Marks 1) fun x634 =>
              chk (decide ((0 : Int) ≤ t30 ∧ t30 < Int.ofNat (List.length s_l0))) <|
              br (List.getD s_l2 (Int.toNat t30) 0 == 0)
                (chk (decide ((0 : Int) ≤ t30 ∧ t30 < Int.ofNat (List.length s_l0))) <|
                 chk (decide (Int.ofNat (List.length h_Got) = Int.ofNat (List.length h_Got)) && true && decide ((Int.ofNat (List.length h_Got) + (↑(1 : Nat) : Int)) * (↑(nat_lit 8) : Int) ≤ (140737488355328 : Int) ∧ Int.ofNat (List.length h_Got) + (↑(1 : Nat) : Int) ≤ (4611686018427387904 : Int))) <|
                 one (maxI now 0) fun x635 =>
                 one (minI x635 4611686018427387904) fun x636 =>
                 chk (decide ((0 : Int) ≤ t30 ∧ t30 < Int.ofNat (List.length s_l0))) <|
                 one (subI .i64 x636 (List.getD s_l1 (Int.toNat t30) 0)) fun x637 =>
                 one (maxI x637 0) fun x638 =>
                 chk (decide ((0 : Int) ≤ t30 ∧ t30 < Int.ofNat (List.length s_l0))) <|
                 one (addI .i64 t30 1) fun x639 =>
                 chk (decide (Int.ofNat (List.length s_l0) = Int.ofNat (List.length s_l0)) && true && (decide (Int.ofNat (List.length h_Got) + (↑(1 : Nat) : Int) = Int.ofNat (List.length (h_Got ++ [List.getD s_l0 (Int.toNat t30) (0 : Int)]))) && (decide (Int.ofNat (List.length h_Late) = Int.ofNat (List.length h_Late)) && (decide (Int.ofNat (List.length h_Lost) = Int.ofNat (List.length h_Lost)) && true)) && (decide (Int.ofNat (List.length t8_Got) = Int.ofNat (List.length t8_Got)) && (decide (Int.ofNat (List.length t8_Late) = Int.ofNat (List.length t8_Late)) && (decide (Int.ofNat (List.length t8_Lost) = Int.ofNat (List.length t8_Lost)) && true)) && true))) <|
                 chk (decide (Int.ofNat (List.length states) = Int.ofNat (List.length states)) && true) <|
                 again (s_l0) (s_l1) (List.set s_l2 (Int.toNat t30) 1) (cells0) (cells1) (h_Got ++ [List.getD s_l0 (Int.toNat t30) (0 : Int)]) (h_Late) (h_Lost) (states) (t8_Got) (t8_Late) (t8_Lost) (s_last) (s_any) (x634) (x638) (t8_Marks) (t8_Rtt) (x639) (now) (ack) (t29))
                (chk (decide ((0 : Int) ≤ t30 ∧ t30 < Int.ofNat (List.length s_l0))) <|
                 chk (decide (Int.ofNat (List.length h_Late) = Int.ofNat (List.length h_Late)) && true && decide ((Int.ofNat (List.length h_Late) + (↑(1 : Nat) : Int)) * (↑(nat_lit 8) : Int) ≤ (140737488355328 : Int) ∧ Int.ofNat (List.length h_Late) + (↑(1 : Nat) : Int) ≤ (4611686018427387904 : Int))) <|
                 chk (decide ((0 : Int) ≤ t30 ∧ t30 < Int.ofNat (List.length s_l0))) <|
                 one (addI .i64 t30 1) fun x640 =>
                 chk (decide (Int.ofNat (List.length s_l0) = Int.ofNat (List.length s_l0)) && true && (decide (Int.ofNat (List.length h_Got) = Int.ofNat (List.length h_Got)) && (decide (Int.ofNat (List.length h_Late) + (↑(1 : Nat) : Int) = Int.ofNat (List.length (h_Late ++ [List.getD s_l0 (Int.toNat t30) (0 : Int)]))) && (decide (Int.ofNat (List.length h_Lost) = Int.ofNat (List.length h_Lost)) && true)) && (decide (Int.ofNat (List.length t8_Got) = Int.ofNat (List.length t8_Got)) && (decide (Int.ofNat (List.length t8_Late) = Int.ofNat (List.length t8_Late)) && (decide (Int.ofNat (List.length t8_Lost) = Int.ofNat (List.length t8_Lost)) && true)) && true))) <|
                 chk (decide (Int.ofNat (List.length states) = Int.ofNat (List.length states)) && true) <|
                 again (s_l0) (s_l1) (List.set s_l2 (Int.toNat t30) 1) (cells0) (cells1) (h_Got) (h_Late ++ [List.getD s_l0 (Int.toNat t30) (0 : Int)]) (h_Lost) (states) (t8_Got) (t8_Late) (t8_Lost) (s_last) (s_any) (x634) (h_Rtt) (t8_Marks) (t8_Rtt) (x640) (now) (ack) (t29)))
             (chk (decide ((0 : Int) ≤ t30 ∧ t30 < Int.ofNat (List.length s_l0))) <|
              br (List.getD s_l2 (Int.toNat t30) 0 == 0)
                (chk (decide ((0 : Int) ≤ t30 ∧ t30 < Int.ofNat (List.length s_l0))) <|
                 chk (decide (Int.ofNat (List.length h_Got) = Int.ofNat (List.length h_Got)) && true && decide ((Int.ofNat (List.length h_Got) + (↑(1 : Nat) : Int)) * (↑(nat_lit 8) : Int) ≤ (140737488355328 : Int) ∧ Int.ofNat (List.length h_Got) + (↑(1 : Nat) : Int) ≤ (4611686018427387904 : Int))) <|
                 one (maxI now 0) fun x641 =>
                 one (minI x641 4611686018427387904) fun x642 =>
                 chk (decide ((0 : Int) ≤ t30 ∧ t30 < Int.ofNat (List.length s_l0))) <|
                 one (subI .i64 x642 (List.getD s_l1 (Int.toNat t30) 0)) fun x643 =>
                 one (maxI x643 0) fun x644 =>
                 chk (decide ((0 : Int) ≤ t30 ∧ t30 < Int.ofNat (List.length s_l0))) <|
                 one (addI .i64 t30 1) fun x645 =>
                 chk (decide (Int.ofNat (List.length s_l0) = Int.ofNat (List.length s_l0)) && true && (decide (Int.ofNat (List.length h_Got) + (↑(1 : Nat) : Int) = Int.ofNat (List.length (h_Got ++ [List.getD s_l0 (Int.toNat t30) (0 : Int)]))) && (decide (Int.ofNat (List.length h_Late) = Int.ofNat (List.length h_Late)) && (decide (Int.ofNat (List.length h_Lost) = Int.ofNat (List.length h_Lost)) && true)) && (decide (Int.ofNat (List.length t8_Got) = Int.ofNat (List.length t8_Got)) && (decide (Int.ofNat (List.length t8_Late) = Int.ofNat (List.length t8_Late)) && (decide (Int.ofNat (List.length t8_Lost) = Int.ofNat (List.length t8_Lost)) && true)) && true))) <|
                 chk (decide (Int.ofNat (List.length states) = Int.ofNat (List.length states)) && true) <|
                 again (s_l0) (s_l1) (List.set s_l2 (Int.toNat t30) 1) (cells0) (cells1) (h_Got ++ [List.getD s_l0 (Int.toNat t30) (0 : Int)]) (h_Late) (h_Lost) (states) (t8_Got) (t8_Late) (t8_Lost) (s_last) (s_any) (h_Marks) (x644) (t8_Marks) (t8_Rtt) (x645) (now) (ack) (t29))
                (chk (decide ((0 : Int) ≤ t30 ∧ t30 < Int.ofNat (List.length s_l0))) <|
                 chk (decide (Int.ofNat (List.length h_Late) = Int.ofNat (List.length h_Late)) && true && decide ((Int.ofNat (List.length h_Late) + (↑(1 : Nat) : Int)) * (↑(nat_lit 8) : Int) ≤ (140737488355328 : Int) ∧ Int.ofNat (List.length h_Late) + (↑(1 : Nat) : Int) ≤ (4611686018427387904 : Int))) <|
                 chk (decide ((0 : Int) ≤ t30 ∧ t30 < Int.ofNat (List.length s_l0))) <|
                 one (addI .i64 t30 1) fun x646 =>
                 chk (decide (Int.ofNat (List.length s_l0) = Int.ofNat (List.length s_l0)) && true && (decide (Int.ofNat (List.length h_Got) = Int.ofNat (List.length h_Got)) && (decide (Int.ofNat (List.length h_Late) + (↑(1 : Nat) : Int) = Int.ofNat (List.length (h_Late ++ [List.getD s_l0 (Int.toNat t30) (0 : Int)]))) && (decide (Int.ofNat (List.length h_Lost) = Int.ofNat (List.length h_Lost)) && true)) && (decide (Int.ofNat (List.length t8_Got) = Int.ofNat (List.length t8_Got)) && (decide (Int.ofNat (List.length t8_Late) = Int.ofNat (List.length t8_Late)) && (decide (Int.ofNat (List.length t8_Lost) = Int.ofNat (List.length t8_Lost)) && true)) && true))) <|
                 chk (decide (Int.ofNat (List.length states) = Int.ofNat (List.length states)) && true) <|
                 again (s_l0) (s_l1) (List.set s_l2 (Int.toNat t30) 1) (cells0) (cells1) (h_Got) (h_Late ++ [List.getD s_l0 (Int.toNat t30) (0 : Int)]) (h_Lost) (states) (t8_Got) (t8_Late) (t8_Lost) (s_last) (s_any) (h_Marks) (h_Rtt) (t8_Marks) (t8_Rtt) (x646) (now) (ack) (t29))))))
    (chk (decide (Int.ofNat (List.length s_l0) = Int.ofNat (List.length s_l0)) && true && (decide (Int.ofNat (List.length t8_Got) = Int.ofNat (List.length t8_Got)) && (decide (Int.ofNat (List.length t8_Late) = Int.ofNat (List.length t8_Late)) && (decide (Int.ofNat (List.length t8_Lost) = Int.ofNat (List.length t8_Lost)) && true)) && (decide (Int.ofNat (List.length h_Got) = Int.ofNat (List.length h_Got)) && (decide (Int.ofNat (List.length h_Late) = Int.ofNat (List.length h_Late)) && (decide (Int.ofNat (List.length h_Lost) = Int.ofNat (List.length h_Lost)) && true)) && true))) <|
     kx 0 [.li (s_l0), .li (s_l1), .li (s_l2), .li (cells0), .li (cells1), .li (t8_Got), .li (t8_Late), .li (t8_Lost), .li (h_Got), .li (h_Late), .li (h_Lost), .i (s_last), .b (s_any), .i (t8_Marks), .i (t8_Rtt), .i (h_Marks), .i (h_Rtt)])
def sent_Hear_6_L {α : Type} (kx : Nat → List Leaf → Option α) (kr : List Leaf → Option α) : Nat → List Int → List Int → List Int → List Int → List Int → List Int → List Int → List Int → List Int → List Int → List Int → List Int → Int → Bool → Int → Int → Int → Int → Int → Int → Int → Int → Option α
  | 0, _, _, _, _, _, _, _, _, _, _, _, _, _, _, _, _, _, _, _, _, _, _ => none
  | n + 1, s_l0, s_l1, s_l2, cells0, cells1, h_Got, h_Late, h_Lost, states, t8_Got, t8_Late, t8_Lost, s_last, s_any, h_Marks, h_Rtt, t8_Marks, t8_Rtt, t30, now, ack, t29 => sent_Hear_6_B  kx kr (sent_Hear_6_L kx kr n) s_l0 s_l1 s_l2 cells0 cells1 h_Got h_Late h_Lost states t8_Got t8_Late t8_Lost s_last s_any h_Marks h_Rtt t8_Marks t8_Rtt t30 now ack t29
def sent_Hear_6_F (L6 : ({β : Type} → (Nat → List Leaf → Option β) → (List Leaf → Option β) → Nat → List Int → List Int → List Int → List Int → List Int → List Int → List Int → List Int → List Int → List Int → List Int → List Int → Int → Bool → Int → Int → Int → Int → Int → Int → Int → Int → Option β)) {α : Type} (n : Nat) (ls : List Leaf) (kx : Nat → List Leaf → Option α) (kr : List Leaf → Option α) : Option α := un_li ls fun s_l0 rr => un_li rr fun s_l1 rr => un_li rr fun s_l2 rr => un_li rr fun cells0 rr => un_li rr fun cells1 rr => un_li rr fun h_Got rr => un_li rr fun h_Late rr => un_li rr fun h_Lost rr => un_li rr fun states rr => un_li rr fun t8_Got rr => un_li rr fun t8_Late rr => un_li rr fun t8_Lost rr => un_i rr fun s_last rr => un_b rr fun s_any rr => un_i rr fun h_Marks rr => un_i rr fun h_Rtt rr => un_i rr fun t8_Marks rr => un_i rr fun t8_Rtt rr => un_i rr fun t30 rr => un_i rr fun now rr => un_i rr fun ack rr => un_i rr fun t29 rr => un_nil rr (L6 kx kr n s_l0 s_l1 s_l2 cells0 cells1 h_Got h_Late h_Lost states t8_Got t8_Late t8_Lost s_last s_any h_Marks h_Rtt t8_Marks t8_Rtt t30 now ack t29)
def sent_Hear_d (L6 : ({β : Type} → (Nat → List Leaf → Option β) → (List Leaf → Option β) → Nat → List Int → List Int → List Int → List Int → List Int → List Int → List Int → List Int → List Int → List Int → List Int → List Int → Int → Bool → Int → Int → Int → Int → Int → Int → Int → Int → Option β)) (s_l0 : List Int) (s_l1 : List Int) (s_l2 : List Int) (cells0 : List Int) (cells1 : List Int) (s_last : Int) (s_any : Bool) (ack : Int) (now : Int) : Option (List Leaf) :=
  chk (decide (Int.ofNat (List.length cells0) = Int.ofNat (List.length cells0)) && true) <|
  out (vec_May cells0 cells1) fun r647 =>
  un_b r647 fun x648 r649 =>
  un_nil r649 <|
  br (!x648)
    (chk (decide (Int.ofNat (List.length s_l0) = Int.ofNat (List.length s_l0)) && true && true) <|
     chk (decide ((0 : Int) = Int.ofNat (0 : Nat)) && (decide ((0 : Int) = Int.ofNat (0 : Nat)) && (decide ((0 : Int) = Int.ofNat (0 : Nat)) && true)) && true) <|
     some [.li (s_l0), .li (s_l1), .li (s_l2), .li ([]), .li ([]), .li ([]), .i (s_last), .b (s_any), .i (0), .i (-1)])
    (chk (decide (Int.ofNat (List.length cells0) = Int.ofNat (List.length cells0)) && true) <|
     out (vec_Spread cells0 cells1) fun r650 =>
     un_li r650 fun x651 r652 =>
     un_nil r652 <|
     one (Int.ofNat (List.length s_l0)) fun x653 =>
     chk (decide (Int.ofNat (List.length s_l0) = Int.ofNat (List.length s_l0)) && true && (decide ((0 : Int) = Int.ofNat (0 : Nat)) && (decide ((0 : Int) = Int.ofNat (0 : Nat)) && (decide ((0 : Int) = Int.ofNat (0 : Nat)) && true)) && (decide ((0 : Int) = Int.ofNat (0 : Nat)) && (decide ((0 : Int) = Int.ofNat (0 : Nat)) && (decide ((0 : Int) = Int.ofNat (0 : Nat)) && true)) && true))) <|
     chk (decide (Int.ofNat (List.length x651) = Int.ofNat (List.length x651)) && true) <|
     L6
       (fun i654 r655 =>
        br (Nat.beq 0 i654)
          (un_li r655 fun x656 r657 =>
           un_li r657 fun x658 r659 =>
           un_li r659 fun x660 r661 =>
           un_li r661 fun x662 r663 =>
           un_li r663 fun x664 r665 =>
           un_li r665 fun x666 r667 =>
           un_li r667 fun x668 r669 =>
           un_li r669 fun x670 r671 =>
           un_li r671 fun x672 r673 =>
           un_li r673 fun x674 r675 =>
           un_li r675 fun x676 r677 =>
           un_i r677 fun x678 r679 =>
           un_b r679 fun x680 r681 =>
           un_i r681 fun x682 r683 =>
           un_i r683 fun x684 r685 =>
           un_i r685 fun x686 r687 =>
           un_i r687 fun x688 r689 =>
           un_nil r689 <|
           chk (decide (Int.ofNat (List.length x656) = Int.ofNat (List.length x656)) && true && true) <|
           out (sent_lose x656 x658 x660 x678 x680) fun r690 =>
           un_li r690 fun x691 r692 =>
           un_li r692 fun x693 r694 =>
           un_li r694 fun x695 r696 =>
           un_li r696 fun x697 r698 =>
           un_i r698 fun x699 r700 =>
           un_b r700 fun x701 r702 =>
           un_nil r702 <|
           chk (decide (Int.ofNat (List.length x691) = Int.ofNat (List.length x691)) && true && true) <|
           chk (decide (Int.ofNat (List.length x672) = Int.ofNat (List.length x672)) && (decide (Int.ofNat (List.length x674) = Int.ofNat (List.length x674)) && (decide (Int.ofNat (List.length x697) = Int.ofNat (List.length x697)) && true)) && true) <|
           some [.li (x691), .li (x693), .li (x695), .li (x672), .li (x674), .li (x697), .i (x699), .b (x701), .i (x686), .i (x688)])
          (none))
       (fun r703 =>
        un_nil r703 <|
        none)
       top (s_l0) (s_l1) (s_l2) (cells0) (cells1) ([]) ([]) ([]) (x651) ([]) ([]) ([]) (s_last) (s_any) (0) (-1) (0) (0) (0) (now) (ack) (x653))
def sent_Hear (s_l0 : List Int) (s_l1 : List Int) (s_l2 : List Int) (cells0 : List Int) (cells1 : List Int) (s_last : Int) (s_any : Bool) (ack : Int) (now : Int) : Option (List Leaf) := sent_Hear_d @sent_Hear_6_L s_l0 s_l1 s_l2 cells0 cells1 s_last s_any ack now
def sent_Len (s_l0 : List Int) (s_l1 : List Int) (s_l2 : List Int) (s_last : Int) (s_any : Bool) : Option (List Leaf) :=
  one (Int.ofNat (List.length s_l0)) fun x704 =>
  some [.i (x704)]
def sent_Out_3_B  {α : Type} (kx : Nat → List Leaf → Option α) (kr : List Leaf → Option α) (again : List Int → List Int → List Int → Int → Bool → Int → Int → Int → Option α) (s_l0 : List Int) (s_l1 : List Int) (s_l2 : List Int) (s_last : Int) (s_any : Bool) (t7 : Int) (n2 : Int) (t6 : Int) : Option α :=
  br (decide (t7 < t6))
    (chk (decide ((0 : Int) ≤ t7 ∧ t7 < Int.ofNat (List.length s_l0))) <|
     chk (decide ((0 : Int) ≤ t7 ∧ t7 < Int.ofNat (List.length s_l0))) <|
     br (List.getD s_l2 (Int.toNat t7) 0 == 0)
       (one (addI .i64 n2 1) fun x711 =>
        one (addI .i64 t7 1) fun x712 =>
        chk (decide (Int.ofNat (List.length s_l0) = Int.ofNat (List.length s_l0)) && true && true) <|
        again (s_l0) (s_l1) (s_l2) (s_last) (s_any) (x712) (x711) (t6))
       (one (addI .i64 t7 1) fun x713 =>
        chk (decide (Int.ofNat (List.length s_l0) = Int.ofNat (List.length s_l0)) && true && true) <|
        again (s_l0) (s_l1) (s_l2) (s_last) (s_any) (x713) (n2) (t6)))
    (chk (decide (Int.ofNat (List.length s_l0) = Int.ofNat (List.length s_l0)) && true && true) <|
     kx 0 [.li (s_l0), .li (s_l1), .li (s_l2), .i (s_last), .b (s_any), .i (n2)])
def sent_Out_3_L {α : Type} (kx : Nat → List Leaf → Option α) (kr : List Leaf → Option α) : Nat → List Int → List Int → List Int → Int → Bool → Int → Int → Int → Option α
  | 0, _, _, _, _, _, _, _, _ => none
  | n + 1, s_l0, s_l1, s_l2, s_last, s_any, t7, n2, t6 => sent_Out_3_B  kx kr (sent_Out_3_L kx kr n) s_l0 s_l1 s_l2 s_last s_any t7 n2 t6
def sent_Out_3_F (L3 : ({β : Type} → (Nat → List Leaf → Option β) → (List Leaf → Option β) → Nat → List Int → List Int → List Int → Int → Bool → Int → Int → Int → Option β)) {α : Type} (n : Nat) (ls : List Leaf) (kx : Nat → List Leaf → Option α) (kr : List Leaf → Option α) : Option α := un_li ls fun s_l0 rr => un_li rr fun s_l1 rr => un_li rr fun s_l2 rr => un_i rr fun s_last rr => un_b rr fun s_any rr => un_i rr fun t7 rr => un_i rr fun n2 rr => un_i rr fun t6 rr => un_nil rr (L3 kx kr n s_l0 s_l1 s_l2 s_last s_any t7 n2 t6)
def sent_Out_d (L3 : ({β : Type} → (Nat → List Leaf → Option β) → (List Leaf → Option β) → Nat → List Int → List Int → List Int → Int → Bool → Int → Int → Int → Option β)) (s_l0 : List Int) (s_l1 : List Int) (s_l2 : List Int) (s_last : Int) (s_any : Bool) : Option (List Leaf) :=
  chk (decide (Int.ofNat (List.length s_l0) = Int.ofNat (List.length s_l0)) && true && true) <|
  out (sent_Len s_l0 s_l1 s_l2 s_last s_any) fun r714 =>
  un_i r714 fun x715 r716 =>
  un_nil r716 <|
  chk (decide (Int.ofNat (List.length s_l0) = Int.ofNat (List.length s_l0)) && true && true) <|
  L3
    (fun i717 r718 =>
     br (Nat.beq 0 i717)
       (un_li r718 fun x719 r720 =>
        un_li r720 fun x721 r722 =>
        un_li r722 fun x723 r724 =>
        un_i r724 fun x725 r726 =>
        un_b r726 fun x727 r728 =>
        un_i r728 fun x729 r730 =>
        un_nil r730 <|
        some [.i (x729)])
       (none))
    (fun r731 =>
     un_nil r731 <|
     none)
    top (s_l0) (s_l1) (s_l2) (s_last) (s_any) (0) (0) (x715)
def sent_Out (s_l0 : List Int) (s_l1 : List Int) (s_l2 : List Int) (s_last : Int) (s_any : Bool) : Option (List Leaf) := sent_Out_d @sent_Out_3_L s_l0 s_l1 s_l2 s_last s_any
def sent_Last (s_l0 : List Int) (s_l1 : List Int) (s_l2 : List Int) (s_last : Int) (s_any : Bool) : Option (List Leaf) :=
  br (!s_any)
    (some [.i (0), .b (false)])
    (some [.i (s_last), .b (true)])
end Go.Sx.T

