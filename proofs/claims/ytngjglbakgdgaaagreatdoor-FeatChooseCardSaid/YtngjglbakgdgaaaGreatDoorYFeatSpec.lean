import Derived.Test.YtngjglbakgdgaaaGreatDoorYLowSpec
set_option linter.all false
namespace Go.Sx.T
open Go Go.Sx
def law1_Text (s : ByteArray) (n2 : Int) : Option (List Leaf) :=
  one ((↑(ByteArray.size s) : Int)) fun x624 =>
  one (minI x624 n2) fun x625 =>
  chk (condSl (↑(ByteArray.size s) : Int) Option.none (Option.some x625)) <|
  some [.s (strSlO s Option.none (Option.some x625))]
def opt_Number_5_B  {α : Type} (kx : Nat → List Leaf → Option α) (kr : List Leaf → Option α) (again : Int → ByteArray → Int → Int → Option α) (t16 : Int) (s : ByteArray) (n2 : Int) (t15 : Int) : Option α :=
  br (decide (t16 < t15))
    (one (shlI .u64 n2 8) fun x634 =>
     chk (decide (0 ≤ t16 ∧ t16 < (↑(ByteArray.size s) : Int))) <|
     one (bt s t16) fun x635 =>
     one (wrapI .u64 x635) fun x636 =>
     one (orI .u64 x634 x636) fun x637 =>
     one (addI .i64 t16 1) fun x638 =>
     again (x638) (s) (x637) (t15))
    (kx 0 [.i (n2)])
def opt_Number_5_L {α : Type} (kx : Nat → List Leaf → Option α) (kr : List Leaf → Option α) : Nat → Int → ByteArray → Int → Int → Option α
  | 0, _, _, _, _ => none
  | n + 1, t16, s, n2, t15 => opt_Number_5_B  kx kr (opt_Number_5_L kx kr n) t16 s n2 t15
def opt_Number_5_F (L5 : ({β : Type} → (Nat → List Leaf → Option β) → (List Leaf → Option β) → Nat → Int → ByteArray → Int → Int → Option β)) {α : Type} (n : Nat) (ls : List Leaf) (kx : Nat → List Leaf → Option α) (kr : List Leaf → Option α) : Option α := un_i ls fun t16 rr => un_s rr fun s rr => un_i rr fun n2 rr => un_i rr fun t15 rr => un_nil rr (L5 kx kr n t16 s n2 t15)
def opt_Number_d (L5 : ({β : Type} → (Nat → List Leaf → Option β) → (List Leaf → Option β) → Nat → Int → ByteArray → Int → Int → Option β)) (s : ByteArray) : Option (List Leaf) :=
  one ((↑(ByteArray.size s) : Int)) fun x639 =>
  br (decide (x639 < 1))
    (some [.i (0), .b (false)])
    (one ((↑(ByteArray.size s) : Int)) fun x640 =>
     br (decide (x640 > 8))
       (some [.i (0), .b (false)])
       (one ((↑(ByteArray.size s) : Int)) fun x641 =>
        L5
          (fun i642 r643 =>
           br (Nat.beq 0 i642)
             (un_i r643 fun x644 r645 =>
              un_nil r645 <|
              some [.i (x644), .b (true)])
             (none))
          (fun r646 =>
           un_nil r646 <|
           none)
          top (0) (s) (0) (x641)))
def opt_Number (s : ByteArray) : Option (List Leaf) := opt_Number_d @opt_Number_5_L s
def feat_Number (v : ByteArray) : Option (List Leaf) :=
  out (opt_Number v) fun r647 =>
  un_i r647 fun x648 r649 =>
  un_b r649 fun x650 r651 =>
  un_nil r651 <|
  one (x648) fun x652 =>
  some [.i (x652), .b (x650)]
def feat_List (f : Int) : Option (List Leaf) :=
  br (f == 1)
    (some [.b (true)])
    (br (f == 6)
       (some [.b (true)])
       (some [.b (f == 8)]))
def feat_Known (f : Int) : Option (List Leaf) :=
  out (feat_List f) fun r653 =>
  un_b r653 fun x654 r655 =>
  un_nil r655 <|
  br (x654)
    (some [.b (true)])
    (some [.b (f == 3)])
def feat_limits (f : Int) : Option (List Leaf) :=
  br (f == 1)
    (some [.i (4), .i (2), .i (3)])
    (br (f == 6)
       (some [.i (4), .i (0), .i (1)])
       (some [.i (16), .i (0), .i (15)]))
def sl_IndexByte (s : ByteArray) (c : Int) : Option (List Leaf) :=
  some [.i (idxB s.data.toList (Nat.toUInt8 (Int.toNat c)) 0)]
def str_IndexByte (s : ByteArray) (c : Int) : Option (List Leaf) :=
  out (sl_IndexByte s c) fun r656 =>
  un_i r656 fun x657 r658 =>
  un_nil r658 <|
  some [.i (x657)]
def feat_May_8_B  {α : Type} (kx : Nat → List Leaf → Option α) (kr : List Leaf → Option α) (again : Int → ByteArray → Int → Int → Int → Option α) (t51 : Int) (v : ByteArray) (high : Int) (low : Int) (t50 : Int) : Option α :=
  br (decide (t51 < t50))
    (chk (decide (0 ≤ t51 ∧ t51 < (↑(ByteArray.size v) : Int))) <|
     one (bt v t51) fun x689 =>
     br (decide (x689 < low))
       (kr [.b (false)])
       (chk (decide (0 ≤ t51 ∧ t51 < (↑(ByteArray.size v) : Int))) <|
        one (bt v t51) fun x690 =>
        br (decide (x690 > high))
          (kr [.b (false)])
          (chk (condSl (↑(ByteArray.size v) : Int) Option.none (Option.some t51)) <|
           chk (decide (0 ≤ t51 ∧ t51 < (↑(ByteArray.size v) : Int))) <|
           one (bt v t51) fun x691 =>
           out (str_IndexByte (strSlO v Option.none (Option.some t51)) x691) fun r692 =>
           un_i r692 fun x693 r694 =>
           un_nil r694 <|
           br (decide (x693 ≥ 0))
             (kr [.b (false)])
             (one (addI .i64 t51 1) fun x695 =>
              again (x695) (v) (high) (low) (t50)))))
    (kx 0 [])
def feat_May_8_L {α : Type} (kx : Nat → List Leaf → Option α) (kr : List Leaf → Option α) : Nat → Int → ByteArray → Int → Int → Int → Option α
  | 0, _, _, _, _, _ => none
  | n + 1, t51, v, high, low, t50 => feat_May_8_B  kx kr (feat_May_8_L kx kr n) t51 v high low t50
def feat_May_8_F (L8 : ({β : Type} → (Nat → List Leaf → Option β) → (List Leaf → Option β) → Nat → Int → ByteArray → Int → Int → Int → Option β)) {α : Type} (n : Nat) (ls : List Leaf) (kx : Nat → List Leaf → Option α) (kr : List Leaf → Option α) : Option α := un_i ls fun t51 rr => un_s rr fun v rr => un_i rr fun high rr => un_i rr fun low rr => un_i rr fun t50 rr => un_nil rr (L8 kx kr n t51 v high low t50)
def feat_May_d (L8 : ({β : Type} → (Nat → List Leaf → Option β) → (List Leaf → Option β) → Nat → Int → ByteArray → Int → Int → Int → Option β)) (f : Int) (v : ByteArray) : Option (List Leaf) :=
  br (f == 3)
    (out (feat_Number v) fun r696 =>
     un_i r696 fun x697 r698 =>
     un_b r698 fun x699 r700 =>
     un_nil r700 <|
     one (x697) fun x701 =>
     one ((↑(ByteArray.size v) : Int)) fun x702 =>
     br (x702 == 6)
       (br (decide (x701 ≥ 32))
          (some [.b (decide (x701 ≤ 1000))])
          (some [.b (false)]))
       (some [.b (false)]))
    (out (feat_limits f) fun r703 =>
     un_i r703 fun x704 r705 =>
     un_i r705 fun x706 r707 =>
     un_i r707 fun x708 r709 =>
     un_nil r709 <|
     one (x704) fun x710 =>
     one (x706) fun x711 =>
     one (x708) fun x712 =>
     out (feat_List f) fun r713 =>
     un_b r713 fun x714 r715 =>
     un_nil r715 <|
     br (!x714)
       (some [.b (false)])
       (one ((↑(ByteArray.size v) : Int)) fun x716 =>
        br (decide (x716 < 1))
          (some [.b (false)])
          (one ((↑(ByteArray.size v) : Int)) fun x717 =>
           br (decide (x717 > x710))
             (some [.b (false)])
             (one ((↑(ByteArray.size v) : Int)) fun x718 =>
              L8
                (fun i719 r720 =>
                 br (Nat.beq 0 i719)
                   (un_nil r720 <|
                    some [.b (true)])
                   (none))
                (fun r721 =>
                 un_b r721 fun x722 r723 =>
                 un_nil r723 <|
                 some [.b (x722)])
                top (0) (v) (x712) (x711) (x718)))))
def feat_May (f : Int) (v : ByteArray) : Option (List Leaf) := feat_May_d @feat_May_8_L f v
def feat_Choose_8_B  {α : Type} (kx : Nat → List Leaf → Option α) (kr : List Leaf → Option α) (again : ByteArray → Int → ByteArray → Int → Option α) (server : ByteArray) (t28 : Int) (client : ByteArray) (t27 : Int) : Option α :=
  br (decide (t28 < t27))
    (chk (decide (0 ≤ t28 ∧ t28 < (↑(ByteArray.size server) : Int))) <|
     one (bt server t28) fun x740 =>
     out (str_IndexByte client x740) fun r741 =>
     un_i r741 fun x742 r743 =>
     un_nil r743 <|
     br (decide (x742 ≥ 0))
       (one (addI .i64 t28 1) fun x744 =>
        chk (condSl (↑(ByteArray.size server) : Int) (Option.some t28) (Option.some x744)) <|
        kr [.s (strSlO server (Option.some t28) (Option.some x744)), .b (true)])
       (one (addI .i64 t28 1) fun x745 =>
        again (server) (x745) (client) (t27)))
    (kx 0 [])
def feat_Choose_8_L {α : Type} (kx : Nat → List Leaf → Option α) (kr : List Leaf → Option α) : Nat → ByteArray → Int → ByteArray → Int → Option α
  | 0, _, _, _, _ => none
  | n + 1, server, t28, client, t27 => feat_Choose_8_B  kx kr (feat_Choose_8_L kx kr n) server t28 client t27
def feat_Choose_8_F (L8 : ({β : Type} → (Nat → List Leaf → Option β) → (List Leaf → Option β) → Nat → ByteArray → Int → ByteArray → Int → Option β)) {α : Type} (n : Nat) (ls : List Leaf) (kx : Nat → List Leaf → Option α) (kr : List Leaf → Option α) : Option α := un_s ls fun server rr => un_i rr fun t28 rr => un_s rr fun client rr => un_i rr fun t27 rr => un_nil rr (L8 kx kr n server t28 client t27)
def feat_Choose_d (L8 : ({β : Type} → (Nat → List Leaf → Option β) → (List Leaf → Option β) → Nat → ByteArray → Int → ByteArray → Int → Option β)) (f : Int) (server : ByteArray) (client : ByteArray) : Option (List Leaf) :=
  br (f == 3)
    (out (feat_May f client) fun r746 =>
     un_b r746 fun x747 r748 =>
     un_nil r748 <|
     br (!x747)
       (some [.s ({ data := #[] }), .b (false)])
       (some [.s (client), .b (true)]))
    (out (feat_May f server) fun r749 =>
     un_b r749 fun x750 r751 =>
     un_nil r751 <|
     br (!x750)
       (some [.s ({ data := #[] }), .b (false)])
       (out (feat_May f client) fun r752 =>
        un_b r752 fun x753 r754 =>
        un_nil r754 <|
        br (!x753)
          (some [.s ({ data := #[] }), .b (false)])
          (one ((↑(ByteArray.size server) : Int)) fun x755 =>
           L8
             (fun i756 r757 =>
              br (Nat.beq 0 i756)
                (un_nil r757 <|
                 some [.s ({ data := #[] }), .b (false)])
                (none))
             (fun r758 =>
              un_s r758 fun x759 r760 =>
              un_b r760 fun x761 r762 =>
              un_nil r762 <|
              some [.s (x759), .b (x761)])
             top (server) (0) (client) (x755))))
def feat_Choose (f : Int) (server : ByteArray) (client : ByteArray) : Option (List Leaf) := feat_Choose_d @feat_Choose_8_L f server client
end Go.Sx.T

