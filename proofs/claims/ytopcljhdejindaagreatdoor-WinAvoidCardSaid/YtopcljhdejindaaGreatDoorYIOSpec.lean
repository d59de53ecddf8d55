import Derived.Test.YtopcljhdejindaaGreatDoorYIvalSpec
set_option linter.all false
namespace Go.Sx.T
open Go Go.Sx
def IvalOrder (closed : List Int) (open2 : Int) (i : Int) (more : Int) : Option (List Leaf) :=
  one (Int.ofNat (List.length closed)) fun x594 =>
  one (minI x594 10) fun x595 =>
  chk (condSl (rlOf [[Col.int .u64 closed]] 0) Option.none (Option.some x595)) <|
  br (x595 == 0)
    (chk (decide (0 = Int.ofNat 0) && true) <|
     out (ival_Rate [] open2) fun r596 =>
     un_i r596 fun x597 r598 =>
     un_nil r598 <|
     some [.b (x597 == 0)])
    (chk (decide (Int.ofNat 0 + x595 ≤ Int.ofNat (List.length closed)) && decide (x595 * ↑8 ≤ 140737488355328 ∧ x595 ≤ 4611686018427387904)) <|
     chk (decide (x595 ≠ 0)) <|
     one (remI .i64 i x595) fun x599 =>
     one (addI .i64 x599 x595) fun x600 =>
     chk (decide (x595 ≠ 0)) <|
     one (remI .i64 x600 x595) fun x601 =>
     chk (decide (0 ≤ x601 ∧ x601 < x595)) <|
     chk (decide (0 ≤ x601 ∧ x601 < x595)) <|
     out (ref_Add (List.getD (List.take (Int.toNat x595) (List.drop (Int.toNat (Int.ofNat 0)) closed)) (Int.toNat x601) 0) more) fun r602 =>
     un_i r602 fun x603 r604 =>
     un_nil r604 <|
     chk (decide (0 ≤ x601 ∧ x601 < x595)) <|
     chk (decide (0 ≤ x601 ∧ x601 < x595)) <|
     chk (decide (Int.ofNat 0 + x595 ≤ Int.ofNat (List.length closed))) <|
     chk (decide (x595 = Int.ofNat (List.length (List.take (Int.toNat x595) (List.drop (Int.toNat (Int.ofNat 0)) closed)))) && true) <|
     out (ival_Rate (List.take (Int.toNat x595) (List.drop (Int.toNat (Int.ofNat 0)) closed)) open2) fun r605 =>
     un_i r605 fun x606 r607 =>
     un_nil r607 <|
     chk (decide (x595 = Int.ofNat (List.length (List.set (List.take (Int.toNat x595) (List.drop (Int.toNat (Int.ofNat 0)) closed)) (Int.toNat x601) x603))) && true) <|
     out (ival_Rate (List.set (List.take (Int.toNat x595) (List.drop (Int.toNat (Int.ofNat 0)) closed)) (Int.toNat x601) x603) open2) fun r608 =>
     un_i r608 fun x609 r610 =>
     un_nil r610 <|
     br (decide (x609 ≤ x606))
       (out (ref_Add open2 more) fun r611 =>
        un_i r611 fun x612 r613 =>
        un_nil r613 <|
        chk (decide (Int.ofNat 0 + x595 ≤ Int.ofNat (List.length closed))) <|
        chk (decide (x595 = Int.ofNat (List.length (List.take (Int.toNat x595) (List.drop (Int.toNat (Int.ofNat 0)) closed)))) && true) <|
        out (ival_Rate (List.take (Int.toNat x595) (List.drop (Int.toNat (Int.ofNat 0)) closed)) x612) fun r614 =>
        un_i r614 fun x615 r616 =>
        un_nil r616 <|
        br (decide (x615 ≤ x606))
          (br (decide (x601 < 8))
             (some [.b (true)])
             (some [.b (x606 == x609)]))
          (some [.b (false)]))
       (some [.b (false)]))
end Go.Sx.T

