import Derived.Test.YtngjglbakgdgaaaGreatDoorYFeatSpec
set_option linter.all false
namespace Go.Sx.T
open Go Go.Sx
def FeatChoose_14_B  {α : Type} (kx : Nat → List Leaf → Option α) (kr : List Leaf → Option α) (again : Int → ByteArray → ByteArray → Bool → Int → ByteArray → Option α) (i : Int) (a : ByteArray) (x : ByteArray) (ok : Bool) (k : Int) (b : ByteArray) : Option α :=
  one ((↑(ByteArray.size b) : Int)) fun x789 =>
  br (decide (k < x789))
    (chk (decide (0 ≤ i ∧ i < (↑(ByteArray.size a) : Int))) <|
     one (bt a i) fun x790 =>
     chk (decide (0 ≤ k ∧ k < (↑(ByteArray.size b) : Int))) <|
     one (bt b k) fun x791 =>
     br (x790 == x791)
       (br (ok)
          (one (addI .i64 i 1) fun x792 =>
           chk (condSl (↑(ByteArray.size a) : Int) (Option.some i) (Option.some x792)) <|
           kr [.b (x == strSlO a (Option.some i) (Option.some x792))])
          (kr [.b (false)]))
       (one (addI .i64 k 1) fun x793 =>
        again (i) (a) (x) (ok) (x793) (b)))
    (kx 2 [.s (a), .s (x), .b (ok), .s (b), .i (i)])
def FeatChoose_14_L {α : Type} (kx : Nat → List Leaf → Option α) (kr : List Leaf → Option α) : Nat → Int → ByteArray → ByteArray → Bool → Int → ByteArray → Option α
  | 0, _, _, _, _, _, _ => none
  | n + 1, i, a, x, ok, k, b => FeatChoose_14_B  kx kr (FeatChoose_14_L kx kr n) i a x ok k b
def FeatChoose_14_F (L14 : ({β : Type} → (Nat → List Leaf → Option β) → (List Leaf → Option β) → Nat → Int → ByteArray → ByteArray → Bool → Int → ByteArray → Option β)) {α : Type} (n : Nat) (ls : List Leaf) (kx : Nat → List Leaf → Option α) (kr : List Leaf → Option α) : Option α := un_i ls fun i rr => un_s rr fun a rr => un_s rr fun x rr => un_b rr fun ok rr => un_i rr fun k rr => un_s rr fun b rr => un_nil rr (L14 kx kr n i a x ok k b)
def FeatChoose_11_B (L14 : ({β : Type} → (Nat → List Leaf → Option β) → (List Leaf → Option β) → Nat → Int → ByteArray → ByteArray → Bool → Int → ByteArray → Option β)) {α : Type} (kx : Nat → List Leaf → Option α) (kr : List Leaf → Option α) (again : Int → ByteArray → ByteArray → Bool → ByteArray → Option α) (i : Int) (a : ByteArray) (x : ByteArray) (ok : Bool) (b : ByteArray) : Option α :=
  one ((↑(ByteArray.size a) : Int)) fun x811 =>
  br (decide (i < x811))
    (L14
       (fun i812 r813 =>
        br (Nat.beq 2 i812)
          (un_s r813 fun x814 r815 =>
           un_s r815 fun x816 r817 =>
           un_b r817 fun x818 r819 =>
           un_s r819 fun x820 r821 =>
           un_i r821 fun x822 r823 =>
           un_nil r823 <|
           one (addI .i64 x822 1) fun x824 =>
           again (x824) (x814) (x816) (x818) (x820))
          (none))
       (fun r825 =>
        un_b r825 fun x826 r827 =>
        un_nil r827 <|
        kr [.b (x826)])
       top (i) (a) (x) (ok) (0) (b))
    (kx 0 [.s (x), .b (ok)])
def FeatChoose_11_L {α : Type} (kx : Nat → List Leaf → Option α) (kr : List Leaf → Option α) : Nat → Int → ByteArray → ByteArray → Bool → ByteArray → Option α
  | 0, _, _, _, _, _ => none
  | n + 1, i, a, x, ok, b => FeatChoose_11_B @FeatChoose_14_L kx kr (FeatChoose_11_L kx kr n) i a x ok b
def FeatChoose_11_F (L11 : ({β : Type} → (Nat → List Leaf → Option β) → (List Leaf → Option β) → Nat → Int → ByteArray → ByteArray → Bool → ByteArray → Option β)) {α : Type} (n : Nat) (ls : List Leaf) (kx : Nat → List Leaf → Option α) (kr : List Leaf → Option α) : Option α := un_i ls fun i rr => un_s rr fun a rr => un_s rr fun x rr => un_b rr fun ok rr => un_s rr fun b rr => un_nil rr (L11 kx kr n i a x ok b)
def FeatChoose_d (L11 : ({β : Type} → (Nat → List Leaf → Option β) → (List Leaf → Option β) → Nat → Int → ByteArray → ByteArray → Bool → ByteArray → Option β)) (f : Int) (a : ByteArray) (b : ByteArray) : Option (List Leaf) :=
  out (law1_Text a 16) fun r828 =>
  un_s r828 fun x829 r830 =>
  un_nil r830 <|
  out (law1_Text b 16) fun r831 =>
  un_s r831 fun x832 r833 =>
  un_nil r833 <|
  out (feat_Choose f x829 x832) fun r834 =>
  un_s r834 fun x835 r836 =>
  un_b r836 fun x837 r838 =>
  un_nil r838 <|
  br (f == 3)
    (out (feat_May f x832) fun r839 =>
     un_b r839 fun x840 r841 =>
     un_nil r841 <|
     br (x837 == x840)
       (br (!x837)
          (some [.b (true)])
          (some [.b (x835 == x832)]))
       (some [.b (false)]))
    (out (feat_May f x829) fun r842 =>
     un_b r842 fun x843 r844 =>
     un_nil r844 <|
     br (!x843)
       (br (!x837)
          (some [.b (x835 == { data := #[] })])
          (some [.b (false)]))
       (out (feat_May f x832) fun r845 =>
        un_b r845 fun x846 r847 =>
        un_nil r847 <|
        br (!x846)
          (br (!x837)
             (some [.b (x835 == { data := #[] })])
             (some [.b (false)]))
          (L11
             (fun i848 r849 =>
              br (Nat.beq 0 i848)
                (un_s r849 fun x850 r851 =>
                 un_b r851 fun x852 r853 =>
                 un_nil r853 <|
                 br (!x852)
                   (some [.b (x850 == { data := #[] })])
                   (some [.b (false)]))
                (none))
             (fun r854 =>
              un_b r854 fun x855 r856 =>
              un_nil r856 <|
              some [.b (x855)])
             top (0) (x829) (x835) (x837) (x832))))
def FeatChoose (f : Int) (a : ByteArray) (b : ByteArray) : Option (List Leaf) := FeatChoose_d @FeatChoose_11_L f a b
end Go.Sx.T

