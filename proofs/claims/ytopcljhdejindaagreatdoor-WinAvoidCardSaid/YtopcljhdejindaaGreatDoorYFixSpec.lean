import Derived.Test.YtopcljhdejindaaGreatDoorYLowSpec
set_option linter.all false
namespace Go.Sx.T
open Go Go.Sx
def bits_Mul64 (x : Int) (y : Int) : Option (List Leaf) :=
  one (andI .u64 x 4294967295) fun x23 =>
  one (shrI .u64 x 32) fun x24 =>
  one (andI .u64 y 4294967295) fun x25 =>
  one (shrI .u64 y 32) fun x26 =>
  one (mulI .u64 x23 x25) fun x27 =>
  one (mulI .u64 x24 x25) fun x28 =>
  one (shrI .u64 x27 32) fun x29 =>
  one (addI .u64 x28 x29) fun x30 =>
  one (andI .u64 x30 4294967295) fun x31 =>
  one (shrI .u64 x30 32) fun x32 =>
  one (mulI .u64 x23 x26) fun x33 =>
  one (addI .u64 x31 x33) fun x34 =>
  one (mulI .u64 x24 x26) fun x35 =>
  one (addI .u64 x35 x32) fun x36 =>
  one (shrI .u64 x34 32) fun x37 =>
  one (addI .u64 x36 x37) fun x38 =>
  one (mulI .u64 x y) fun x39 =>
  some [.i (x38), .i (x39)]
def bits_Len64 (x : Int) : Option (List Leaf) :=
  br (decide (x ≥ 4294967296))
    (one (shrI .u64 x 32) fun x40 =>
     br (decide (x40 ≥ 65536))
       (one (shrI .u64 x40 16) fun x41 =>
        one (addI .i64 32 16) fun x42 =>
        br (decide (x41 ≥ 256))
          (one (shrI .u64 x41 8) fun x43 =>
           one (addI .i64 x42 8) fun x44 =>
           one (wrapI .u8 x43) fun x45 =>
           chk (decide (0 ≤ x45 ∧ x45 < ↑(ByteArray.size { data := List.toArray (List.append (List.append [0, 1, 2, 2, 3, 3, 3, 3, 4, 4, 4, 4, 4, 4, 4, 4, 5, 5, 5, 5, 5, 5, 5, 5, 5, 5, 5, 5, 5, 5, 5, 5, 6, 6, 6, 6, 6, 6, 6, 6, 6, 6, 6, 6, 6, 6, 6, 6, 6, 6, 6, 6, 6, 6, 6, 6, 6, 6, 6, 6, 6, 6, 6, 6] [7, 7, 7, 7, 7, 7, 7, 7, 7, 7, 7, 7, 7, 7, 7, 7, 7, 7, 7, 7, 7, 7, 7, 7, 7, 7, 7, 7, 7, 7, 7, 7, 7, 7, 7, 7, 7, 7, 7, 7, 7, 7, 7, 7, 7, 7, 7, 7, 7, 7, 7, 7, 7, 7, 7, 7, 7, 7, 7, 7, 7, 7, 7, 7]) (List.append [8, 8, 8, 8, 8, 8, 8, 8, 8, 8, 8, 8, 8, 8, 8, 8, 8, 8, 8, 8, 8, 8, 8, 8, 8, 8, 8, 8, 8, 8, 8, 8, 8, 8, 8, 8, 8, 8, 8, 8, 8, 8, 8, 8, 8, 8, 8, 8, 8, 8, 8, 8, 8, 8, 8, 8, 8, 8, 8, 8, 8, 8, 8, 8] [8, 8, 8, 8, 8, 8, 8, 8, 8, 8, 8, 8, 8, 8, 8, 8, 8, 8, 8, 8, 8, 8, 8, 8, 8, 8, 8, 8, 8, 8, 8, 8, 8, 8, 8, 8, 8, 8, 8, 8, 8, 8, 8, 8, 8, 8, 8, 8, 8, 8, 8, 8, 8, 8, 8, 8, 8, 8, 8, 8, 8, 8, 8, 8])) }))) <|
           one (bt { data := List.toArray (List.append (List.append [0, 1, 2, 2, 3, 3, 3, 3, 4, 4, 4, 4, 4, 4, 4, 4, 5, 5, 5, 5, 5, 5, 5, 5, 5, 5, 5, 5, 5, 5, 5, 5, 6, 6, 6, 6, 6, 6, 6, 6, 6, 6, 6, 6, 6, 6, 6, 6, 6, 6, 6, 6, 6, 6, 6, 6, 6, 6, 6, 6, 6, 6, 6, 6] [7, 7, 7, 7, 7, 7, 7, 7, 7, 7, 7, 7, 7, 7, 7, 7, 7, 7, 7, 7, 7, 7, 7, 7, 7, 7, 7, 7, 7, 7, 7, 7, 7, 7, 7, 7, 7, 7, 7, 7, 7, 7, 7, 7, 7, 7, 7, 7, 7, 7, 7, 7, 7, 7, 7, 7, 7, 7, 7, 7, 7, 7, 7, 7]) (List.append [8, 8, 8, 8, 8, 8, 8, 8, 8, 8, 8, 8, 8, 8, 8, 8, 8, 8, 8, 8, 8, 8, 8, 8, 8, 8, 8, 8, 8, 8, 8, 8, 8, 8, 8, 8, 8, 8, 8, 8, 8, 8, 8, 8, 8, 8, 8, 8, 8, 8, 8, 8, 8, 8, 8, 8, 8, 8, 8, 8, 8, 8, 8, 8] [8, 8, 8, 8, 8, 8, 8, 8, 8, 8, 8, 8, 8, 8, 8, 8, 8, 8, 8, 8, 8, 8, 8, 8, 8, 8, 8, 8, 8, 8, 8, 8, 8, 8, 8, 8, 8, 8, 8, 8, 8, 8, 8, 8, 8, 8, 8, 8, 8, 8, 8, 8, 8, 8, 8, 8, 8, 8, 8, 8, 8, 8, 8, 8])) } x45) fun x46 =>
           one (wrapI .i64 x46) fun x47 =>
           one (addI .i64 x44 x47) fun x48 =>
           some [.i (x48)])
          (one (wrapI .u8 x41) fun x49 =>
           chk (decide (0 ≤ x49 ∧ x49 < ↑(ByteArray.size { data := List.toArray (List.append (List.append [0, 1, 2, 2, 3, 3, 3, 3, 4, 4, 4, 4, 4, 4, 4, 4, 5, 5, 5, 5, 5, 5, 5, 5, 5, 5, 5, 5, 5, 5, 5, 5, 6, 6, 6, 6, 6, 6, 6, 6, 6, 6, 6, 6, 6, 6, 6, 6, 6, 6, 6, 6, 6, 6, 6, 6, 6, 6, 6, 6, 6, 6, 6, 6] [7, 7, 7, 7, 7, 7, 7, 7, 7, 7, 7, 7, 7, 7, 7, 7, 7, 7, 7, 7, 7, 7, 7, 7, 7, 7, 7, 7, 7, 7, 7, 7, 7, 7, 7, 7, 7, 7, 7, 7, 7, 7, 7, 7, 7, 7, 7, 7, 7, 7, 7, 7, 7, 7, 7, 7, 7, 7, 7, 7, 7, 7, 7, 7]) (List.append [8, 8, 8, 8, 8, 8, 8, 8, 8, 8, 8, 8, 8, 8, 8, 8, 8, 8, 8, 8, 8, 8, 8, 8, 8, 8, 8, 8, 8, 8, 8, 8, 8, 8, 8, 8, 8, 8, 8, 8, 8, 8, 8, 8, 8, 8, 8, 8, 8, 8, 8, 8, 8, 8, 8, 8, 8, 8, 8, 8, 8, 8, 8, 8] [8, 8, 8, 8, 8, 8, 8, 8, 8, 8, 8, 8, 8, 8, 8, 8, 8, 8, 8, 8, 8, 8, 8, 8, 8, 8, 8, 8, 8, 8, 8, 8, 8, 8, 8, 8, 8, 8, 8, 8, 8, 8, 8, 8, 8, 8, 8, 8, 8, 8, 8, 8, 8, 8, 8, 8, 8, 8, 8, 8, 8, 8, 8, 8])) }))) <|
           one (bt { data := List.toArray (List.append (List.append [0, 1, 2, 2, 3, 3, 3, 3, 4, 4, 4, 4, 4, 4, 4, 4, 5, 5, 5, 5, 5, 5, 5, 5, 5, 5, 5, 5, 5, 5, 5, 5, 6, 6, 6, 6, 6, 6, 6, 6, 6, 6, 6, 6, 6, 6, 6, 6, 6, 6, 6, 6, 6, 6, 6, 6, 6, 6, 6, 6, 6, 6, 6, 6] [7, 7, 7, 7, 7, 7, 7, 7, 7, 7, 7, 7, 7, 7, 7, 7, 7, 7, 7, 7, 7, 7, 7, 7, 7, 7, 7, 7, 7, 7, 7, 7, 7, 7, 7, 7, 7, 7, 7, 7, 7, 7, 7, 7, 7, 7, 7, 7, 7, 7, 7, 7, 7, 7, 7, 7, 7, 7, 7, 7, 7, 7, 7, 7]) (List.append [8, 8, 8, 8, 8, 8, 8, 8, 8, 8, 8, 8, 8, 8, 8, 8, 8, 8, 8, 8, 8, 8, 8, 8, 8, 8, 8, 8, 8, 8, 8, 8, 8, 8, 8, 8, 8, 8, 8, 8, 8, 8, 8, 8, 8, 8, 8, 8, 8, 8, 8, 8, 8, 8, 8, 8, 8, 8, 8, 8, 8, 8, 8, 8] [8, 8, 8, 8, 8, 8, 8, 8, 8, 8, 8, 8, 8, 8, 8, 8, 8, 8, 8, 8, 8, 8, 8, 8, 8, 8, 8, 8, 8, 8, 8, 8, 8, 8, 8, 8, 8, 8, 8, 8, 8, 8, 8, 8, 8, 8, 8, 8, 8, 8, 8, 8, 8, 8, 8, 8, 8, 8, 8, 8, 8, 8, 8, 8])) } x49) fun x50 =>
           one (wrapI .i64 x50) fun x51 =>
           one (addI .i64 x42 x51) fun x52 =>
           some [.i (x52)]))
       (br (decide (x40 ≥ 256))
          (one (shrI .u64 x40 8) fun x53 =>
           one (addI .i64 32 8) fun x54 =>
           one (wrapI .u8 x53) fun x55 =>
           chk (decide (0 ≤ x55 ∧ x55 < ↑(ByteArray.size { data := List.toArray (List.append (List.append [0, 1, 2, 2, 3, 3, 3, 3, 4, 4, 4, 4, 4, 4, 4, 4, 5, 5, 5, 5, 5, 5, 5, 5, 5, 5, 5, 5, 5, 5, 5, 5, 6, 6, 6, 6, 6, 6, 6, 6, 6, 6, 6, 6, 6, 6, 6, 6, 6, 6, 6, 6, 6, 6, 6, 6, 6, 6, 6, 6, 6, 6, 6, 6] [7, 7, 7, 7, 7, 7, 7, 7, 7, 7, 7, 7, 7, 7, 7, 7, 7, 7, 7, 7, 7, 7, 7, 7, 7, 7, 7, 7, 7, 7, 7, 7, 7, 7, 7, 7, 7, 7, 7, 7, 7, 7, 7, 7, 7, 7, 7, 7, 7, 7, 7, 7, 7, 7, 7, 7, 7, 7, 7, 7, 7, 7, 7, 7]) (List.append [8, 8, 8, 8, 8, 8, 8, 8, 8, 8, 8, 8, 8, 8, 8, 8, 8, 8, 8, 8, 8, 8, 8, 8, 8, 8, 8, 8, 8, 8, 8, 8, 8, 8, 8, 8, 8, 8, 8, 8, 8, 8, 8, 8, 8, 8, 8, 8, 8, 8, 8, 8, 8, 8, 8, 8, 8, 8, 8, 8, 8, 8, 8, 8] [8, 8, 8, 8, 8, 8, 8, 8, 8, 8, 8, 8, 8, 8, 8, 8, 8, 8, 8, 8, 8, 8, 8, 8, 8, 8, 8, 8, 8, 8, 8, 8, 8, 8, 8, 8, 8, 8, 8, 8, 8, 8, 8, 8, 8, 8, 8, 8, 8, 8, 8, 8, 8, 8, 8, 8, 8, 8, 8, 8, 8, 8, 8, 8])) }))) <|
           one (bt { data := List.toArray (List.append (List.append [0, 1, 2, 2, 3, 3, 3, 3, 4, 4, 4, 4, 4, 4, 4, 4, 5, 5, 5, 5, 5, 5, 5, 5, 5, 5, 5, 5, 5, 5, 5, 5, 6, 6, 6, 6, 6, 6, 6, 6, 6, 6, 6, 6, 6, 6, 6, 6, 6, 6, 6, 6, 6, 6, 6, 6, 6, 6, 6, 6, 6, 6, 6, 6] [7, 7, 7, 7, 7, 7, 7, 7, 7, 7, 7, 7, 7, 7, 7, 7, 7, 7, 7, 7, 7, 7, 7, 7, 7, 7, 7, 7, 7, 7, 7, 7, 7, 7, 7, 7, 7, 7, 7, 7, 7, 7, 7, 7, 7, 7, 7, 7, 7, 7, 7, 7, 7, 7, 7, 7, 7, 7, 7, 7, 7, 7, 7, 7]) (List.append [8, 8, 8, 8, 8, 8, 8, 8, 8, 8, 8, 8, 8, 8, 8, 8, 8, 8, 8, 8, 8, 8, 8, 8, 8, 8, 8, 8, 8, 8, 8, 8, 8, 8, 8, 8, 8, 8, 8, 8, 8, 8, 8, 8, 8, 8, 8, 8, 8, 8, 8, 8, 8, 8, 8, 8, 8, 8, 8, 8, 8, 8, 8, 8] [8, 8, 8, 8, 8, 8, 8, 8, 8, 8, 8, 8, 8, 8, 8, 8, 8, 8, 8, 8, 8, 8, 8, 8, 8, 8, 8, 8, 8, 8, 8, 8, 8, 8, 8, 8, 8, 8, 8, 8, 8, 8, 8, 8, 8, 8, 8, 8, 8, 8, 8, 8, 8, 8, 8, 8, 8, 8, 8, 8, 8, 8, 8, 8])) } x55) fun x56 =>
           one (wrapI .i64 x56) fun x57 =>
           one (addI .i64 x54 x57) fun x58 =>
           some [.i (x58)])
          (one (wrapI .u8 x40) fun x59 =>
           chk (decide (0 ≤ x59 ∧ x59 < ↑(ByteArray.size { data := List.toArray (List.append (List.append [0, 1, 2, 2, 3, 3, 3, 3, 4, 4, 4, 4, 4, 4, 4, 4, 5, 5, 5, 5, 5, 5, 5, 5, 5, 5, 5, 5, 5, 5, 5, 5, 6, 6, 6, 6, 6, 6, 6, 6, 6, 6, 6, 6, 6, 6, 6, 6, 6, 6, 6, 6, 6, 6, 6, 6, 6, 6, 6, 6, 6, 6, 6, 6] [7, 7, 7, 7, 7, 7, 7, 7, 7, 7, 7, 7, 7, 7, 7, 7, 7, 7, 7, 7, 7, 7, 7, 7, 7, 7, 7, 7, 7, 7, 7, 7, 7, 7, 7, 7, 7, 7, 7, 7, 7, 7, 7, 7, 7, 7, 7, 7, 7, 7, 7, 7, 7, 7, 7, 7, 7, 7, 7, 7, 7, 7, 7, 7]) (List.append [8, 8, 8, 8, 8, 8, 8, 8, 8, 8, 8, 8, 8, 8, 8, 8, 8, 8, 8, 8, 8, 8, 8, 8, 8, 8, 8, 8, 8, 8, 8, 8, 8, 8, 8, 8, 8, 8, 8, 8, 8, 8, 8, 8, 8, 8, 8, 8, 8, 8, 8, 8, 8, 8, 8, 8, 8, 8, 8, 8, 8, 8, 8, 8] [8, 8, 8, 8, 8, 8, 8, 8, 8, 8, 8, 8, 8, 8, 8, 8, 8, 8, 8, 8, 8, 8, 8, 8, 8, 8, 8, 8, 8, 8, 8, 8, 8, 8, 8, 8, 8, 8, 8, 8, 8, 8, 8, 8, 8, 8, 8, 8, 8, 8, 8, 8, 8, 8, 8, 8, 8, 8, 8, 8, 8, 8, 8, 8])) }))) <|
           one (bt { data := List.toArray (List.append (List.append [0, 1, 2, 2, 3, 3, 3, 3, 4, 4, 4, 4, 4, 4, 4, 4, 5, 5, 5, 5, 5, 5, 5, 5, 5, 5, 5, 5, 5, 5, 5, 5, 6, 6, 6, 6, 6, 6, 6, 6, 6, 6, 6, 6, 6, 6, 6, 6, 6, 6, 6, 6, 6, 6, 6, 6, 6, 6, 6, 6, 6, 6, 6, 6] [7, 7, 7, 7, 7, 7, 7, 7, 7, 7, 7, 7, 7, 7, 7, 7, 7, 7, 7, 7, 7, 7, 7, 7, 7, 7, 7, 7, 7, 7, 7, 7, 7, 7, 7, 7, 7, 7, 7, 7, 7, 7, 7, 7, 7, 7, 7, 7, 7, 7, 7, 7, 7, 7, 7, 7, 7, 7, 7, 7, 7, 7, 7, 7]) (List.append [8, 8, 8, 8, 8, 8, 8, 8, 8, 8, 8, 8, 8, 8, 8, 8, 8, 8, 8, 8, 8, 8, 8, 8, 8, 8, 8, 8, 8, 8, 8, 8, 8, 8, 8, 8, 8, 8, 8, 8, 8, 8, 8, 8, 8, 8, 8, 8, 8, 8, 8, 8, 8, 8, 8, 8, 8, 8, 8, 8, 8, 8, 8, 8] [8, 8, 8, 8, 8, 8, 8, 8, 8, 8, 8, 8, 8, 8, 8, 8, 8, 8, 8, 8, 8, 8, 8, 8, 8, 8, 8, 8, 8, 8, 8, 8, 8, 8, 8, 8, 8, 8, 8, 8, 8, 8, 8, 8, 8, 8, 8, 8, 8, 8, 8, 8, 8, 8, 8, 8, 8, 8, 8, 8, 8, 8, 8, 8])) } x59) fun x60 =>
           one (wrapI .i64 x60) fun x61 =>
           one (addI .i64 32 x61) fun x62 =>
           some [.i (x62)])))
    (br (decide (x ≥ 65536))
       (one (shrI .u64 x 16) fun x63 =>
        one (addI .i64 0 16) fun x64 =>
        br (decide (x63 ≥ 256))
          (one (shrI .u64 x63 8) fun x65 =>
           one (addI .i64 x64 8) fun x66 =>
           one (wrapI .u8 x65) fun x67 =>
           chk (decide (0 ≤ x67 ∧ x67 < ↑(ByteArray.size { data := List.toArray (List.append (List.append [0, 1, 2, 2, 3, 3, 3, 3, 4, 4, 4, 4, 4, 4, 4, 4, 5, 5, 5, 5, 5, 5, 5, 5, 5, 5, 5, 5, 5, 5, 5, 5, 6, 6, 6, 6, 6, 6, 6, 6, 6, 6, 6, 6, 6, 6, 6, 6, 6, 6, 6, 6, 6, 6, 6, 6, 6, 6, 6, 6, 6, 6, 6, 6] [7, 7, 7, 7, 7, 7, 7, 7, 7, 7, 7, 7, 7, 7, 7, 7, 7, 7, 7, 7, 7, 7, 7, 7, 7, 7, 7, 7, 7, 7, 7, 7, 7, 7, 7, 7, 7, 7, 7, 7, 7, 7, 7, 7, 7, 7, 7, 7, 7, 7, 7, 7, 7, 7, 7, 7, 7, 7, 7, 7, 7, 7, 7, 7]) (List.append [8, 8, 8, 8, 8, 8, 8, 8, 8, 8, 8, 8, 8, 8, 8, 8, 8, 8, 8, 8, 8, 8, 8, 8, 8, 8, 8, 8, 8, 8, 8, 8, 8, 8, 8, 8, 8, 8, 8, 8, 8, 8, 8, 8, 8, 8, 8, 8, 8, 8, 8, 8, 8, 8, 8, 8, 8, 8, 8, 8, 8, 8, 8, 8] [8, 8, 8, 8, 8, 8, 8, 8, 8, 8, 8, 8, 8, 8, 8, 8, 8, 8, 8, 8, 8, 8, 8, 8, 8, 8, 8, 8, 8, 8, 8, 8, 8, 8, 8, 8, 8, 8, 8, 8, 8, 8, 8, 8, 8, 8, 8, 8, 8, 8, 8, 8, 8, 8, 8, 8, 8, 8, 8, 8, 8, 8, 8, 8])) }))) <|
           one (bt { data := List.toArray (List.append (List.append [0, 1, 2, 2, 3, 3, 3, 3, 4, 4, 4, 4, 4, 4, 4, 4, 5, 5, 5, 5, 5, 5, 5, 5, 5, 5, 5, 5, 5, 5, 5, 5, 6, 6, 6, 6, 6, 6, 6, 6, 6, 6, 6, 6, 6, 6, 6, 6, 6, 6, 6, 6, 6, 6, 6, 6, 6, 6, 6, 6, 6, 6, 6, 6] [7, 7, 7, 7, 7, 7, 7, 7, 7, 7, 7, 7, 7, 7, 7, 7, 7, 7, 7, 7, 7, 7, 7, 7, 7, 7, 7, 7, 7, 7, 7, 7, 7, 7, 7, 7, 7, 7, 7, 7, 7, 7, 7, 7, 7, 7, 7, 7, 7, 7, 7, 7, 7, 7, 7, 7, 7, 7, 7, 7, 7, 7, 7, 7]) (List.append [8, 8, 8, 8, 8, 8, 8, 8, 8, 8, 8, 8, 8, 8, 8, 8, 8, 8, 8, 8, 8, 8, 8, 8, 8, 8, 8, 8, 8, 8, 8, 8, 8, 8, 8, 8, 8, 8, 8, 8, 8, 8, 8, 8, 8, 8, 8, 8, 8, 8, 8, 8, 8, 8, 8, 8, 8, 8, 8, 8, 8, 8, 8, 8] [8, 8, 8, 8, 8, 8, 8, 8, 8, 8, 8, 8, 8, 8, 8, 8, 8, 8, 8, 8, 8, 8, 8, 8, 8, 8, 8, 8, 8, 8, 8, 8, 8, 8, 8, 8, 8, 8, 8, 8, 8, 8, 8, 8, 8, 8, 8, 8, 8, 8, 8, 8, 8, 8, 8, 8, 8, 8, 8, 8, 8, 8, 8, 8])) } x67) fun x68 =>
           one (wrapI .i64 x68) fun x69 =>
           one (addI .i64 x66 x69) fun x70 =>
           some [.i (x70)])
          (one (wrapI .u8 x63) fun x71 =>
           chk (decide (0 ≤ x71 ∧ x71 < ↑(ByteArray.size { data := List.toArray (List.append (List.append [0, 1, 2, 2, 3, 3, 3, 3, 4, 4, 4, 4, 4, 4, 4, 4, 5, 5, 5, 5, 5, 5, 5, 5, 5, 5, 5, 5, 5, 5, 5, 5, 6, 6, 6, 6, 6, 6, 6, 6, 6, 6, 6, 6, 6, 6, 6, 6, 6, 6, 6, 6, 6, 6, 6, 6, 6, 6, 6, 6, 6, 6, 6, 6] [7, 7, 7, 7, 7, 7, 7, 7, 7, 7, 7, 7, 7, 7, 7, 7, 7, 7, 7, 7, 7, 7, 7, 7, 7, 7, 7, 7, 7, 7, 7, 7, 7, 7, 7, 7, 7, 7, 7, 7, 7, 7, 7, 7, 7, 7, 7, 7, 7, 7, 7, 7, 7, 7, 7, 7, 7, 7, 7, 7, 7, 7, 7, 7]) (List.append [8, 8, 8, 8, 8, 8, 8, 8, 8, 8, 8, 8, 8, 8, 8, 8, 8, 8, 8, 8, 8, 8, 8, 8, 8, 8, 8, 8, 8, 8, 8, 8, 8, 8, 8, 8, 8, 8, 8, 8, 8, 8, 8, 8, 8, 8, 8, 8, 8, 8, 8, 8, 8, 8, 8, 8, 8, 8, 8, 8, 8, 8, 8, 8] [8, 8, 8, 8, 8, 8, 8, 8, 8, 8, 8, 8, 8, 8, 8, 8, 8, 8, 8, 8, 8, 8, 8, 8, 8, 8, 8, 8, 8, 8, 8, 8, 8, 8, 8, 8, 8, 8, 8, 8, 8, 8, 8, 8, 8, 8, 8, 8, 8, 8, 8, 8, 8, 8, 8, 8, 8, 8, 8, 8, 8, 8, 8, 8])) }))) <|
           one (bt { data := List.toArray (List.append (List.append [0, 1, 2, 2, 3, 3, 3, 3, 4, 4, 4, 4, 4, 4, 4, 4, 5, 5, 5, 5, 5, 5, 5, 5, 5, 5, 5, 5, 5, 5, 5, 5, 6, 6, 6, 6, 6, 6, 6, 6, 6, 6, 6, 6, 6, 6, 6, 6, 6, 6, 6, 6, 6, 6, 6, 6, 6, 6, 6, 6, 6, 6, 6, 6] [7, 7, 7, 7, 7, 7, 7, 7, 7, 7, 7, 7, 7, 7, 7, 7, 7, 7, 7, 7, 7, 7, 7, 7, 7, 7, 7, 7, 7, 7, 7, 7, 7, 7, 7, 7, 7, 7, 7, 7, 7, 7, 7, 7, 7, 7, 7, 7, 7, 7, 7, 7, 7, 7, 7, 7, 7, 7, 7, 7, 7, 7, 7, 7]) (List.append [8, 8, 8, 8, 8, 8, 8, 8, 8, 8, 8, 8, 8, 8, 8, 8, 8, 8, 8, 8, 8, 8, 8, 8, 8, 8, 8, 8, 8, 8, 8, 8, 8, 8, 8, 8, 8, 8, 8, 8, 8, 8, 8, 8, 8, 8, 8, 8, 8, 8, 8, 8, 8, 8, 8, 8, 8, 8, 8, 8, 8, 8, 8, 8] [8, 8, 8, 8, 8, 8, 8, 8, 8, 8, 8, 8, 8, 8, 8, 8, 8, 8, 8, 8, 8, 8, 8, 8, 8, 8, 8, 8, 8, 8, 8, 8, 8, 8, 8, 8, 8, 8, 8, 8, 8, 8, 8, 8, 8, 8, 8, 8, 8, 8, 8, 8, 8, 8, 8, 8, 8, 8, 8, 8, 8, 8, 8, 8])) } x71) fun x72 =>
           one (wrapI .i64 x72) fun x73 =>
           one (addI .i64 x64 x73) fun x74 =>
           some [.i (x74)]))
       (br (decide (x ≥ 256))
          (one (shrI .u64 x 8) fun x75 =>
           one (addI .i64 0 8) fun x76 =>
           one (wrapI .u8 x75) fun x77 =>
           chk (decide (0 ≤ x77 ∧ x77 < ↑(ByteArray.size { data := List.toArray (List.append (List.append [0, 1, 2, 2, 3, 3, 3, 3, 4, 4, 4, 4, 4, 4, 4, 4, 5, 5, 5, 5, 5, 5, 5, 5, 5, 5, 5, 5, 5, 5, 5, 5, 6, 6, 6, 6, 6, 6, 6, 6, 6, 6, 6, 6, 6, 6, 6, 6, 6, 6, 6, 6, 6, 6, 6, 6, 6, 6, 6, 6, 6, 6, 6, 6] [7, 7, 7, 7, 7, 7, 7, 7, 7, 7, 7, 7, 7, 7, 7, 7, 7, 7, 7, 7, 7, 7, 7, 7, 7, 7, 7, 7, 7, 7, 7, 7, 7, 7, 7, 7, 7, 7, 7, 7, 7, 7, 7, 7, 7, 7, 7, 7, 7, 7, 7, 7, 7, 7, 7, 7, 7, 7, 7, 7, 7, 7, 7, 7]) (List.append [8, 8, 8, 8, 8, 8, 8, 8, 8, 8, 8, 8, 8, 8, 8, 8, 8, 8, 8, 8, 8, 8, 8, 8, 8, 8, 8, 8, 8, 8, 8, 8, 8, 8, 8, 8, 8, 8, 8, 8, 8, 8, 8, 8, 8, 8, 8, 8, 8, 8, 8, 8, 8, 8, 8, 8, 8, 8, 8, 8, 8, 8, 8, 8] [8, 8, 8, 8, 8, 8, 8, 8, 8, 8, 8, 8, 8, 8, 8, 8, 8, 8, 8, 8, 8, 8, 8, 8, 8, 8, 8, 8, 8, 8, 8, 8, 8, 8, 8, 8, 8, 8, 8, 8, 8, 8, 8, 8, 8, 8, 8, 8, 8, 8, 8, 8, 8, 8, 8, 8, 8, 8, 8, 8, 8, 8, 8, 8])) }))) <|
           one (bt { data := List.toArray (List.append (List.append [0, 1, 2, 2, 3, 3, 3, 3, 4, 4, 4, 4, 4, 4, 4, 4, 5, 5, 5, 5, 5, 5, 5, 5, 5, 5, 5, 5, 5, 5, 5, 5, 6, 6, 6, 6, 6, 6, 6, 6, 6, 6, 6, 6, 6, 6, 6, 6, 6, 6, 6, 6, 6, 6, 6, 6, 6, 6, 6, 6, 6, 6, 6, 6] [7, 7, 7, 7, 7, 7, 7, 7, 7, 7, 7, 7, 7, 7, 7, 7, 7, 7, 7, 7, 7, 7, 7, 7, 7, 7, 7, 7, 7, 7, 7, 7, 7, 7, 7, 7, 7, 7, 7, 7, 7, 7, 7, 7, 7, 7, 7, 7, 7, 7, 7, 7, 7, 7, 7, 7, 7, 7, 7, 7, 7, 7, 7, 7]) (List.append [8, 8, 8, 8, 8, 8, 8, 8, 8, 8, 8, 8, 8, 8, 8, 8, 8, 8, 8, 8, 8, 8, 8, 8, 8, 8, 8, 8, 8, 8, 8, 8, 8, 8, 8, 8, 8, 8, 8, 8, 8, 8, 8, 8, 8, 8, 8, 8, 8, 8, 8, 8, 8, 8, 8, 8, 8, 8, 8, 8, 8, 8, 8, 8] [8, 8, 8, 8, 8, 8, 8, 8, 8, 8, 8, 8, 8, 8, 8, 8, 8, 8, 8, 8, 8, 8, 8, 8, 8, 8, 8, 8, 8, 8, 8, 8, 8, 8, 8, 8, 8, 8, 8, 8, 8, 8, 8, 8, 8, 8, 8, 8, 8, 8, 8, 8, 8, 8, 8, 8, 8, 8, 8, 8, 8, 8, 8, 8])) } x77) fun x78 =>
           one (wrapI .i64 x78) fun x79 =>
           one (addI .i64 x76 x79) fun x80 =>
           some [.i (x80)])
          (one (wrapI .u8 x) fun x81 =>
           chk (decide (0 ≤ x81 ∧ x81 < ↑(ByteArray.size { data := List.toArray (List.append (List.append [0, 1, 2, 2, 3, 3, 3, 3, 4, 4, 4, 4, 4, 4, 4, 4, 5, 5, 5, 5, 5, 5, 5, 5, 5, 5, 5, 5, 5, 5, 5, 5, 6, 6, 6, 6, 6, 6, 6, 6, 6, 6, 6, 6, 6, 6, 6, 6, 6, 6, 6, 6, 6, 6, 6, 6, 6, 6, 6, 6, 6, 6, 6, 6] [7, 7, 7, 7, 7, 7, 7, 7, 7, 7, 7, 7, 7, 7, 7, 7, 7, 7, 7, 7, 7, 7, 7, 7, 7, 7, 7, 7, 7, 7, 7, 7, 7, 7, 7, 7, 7, 7, 7, 7, 7, 7, 7, 7, 7, 7, 7, 7, 7, 7, 7, 7, 7, 7, 7, 7, 7, 7, 7, 7, 7, 7, 7, 7]) (List.append [8, 8, 8, 8, 8, 8, 8, 8, 8, 8, 8, 8, 8, 8, 8, 8, 8, 8, 8, 8, 8, 8, 8, 8, 8, 8, 8, 8, 8, 8, 8, 8, 8, 8, 8, 8, 8, 8, 8, 8, 8, 8, 8, 8, 8, 8, 8, 8, 8, 8, 8, 8, 8, 8, 8, 8, 8, 8, 8, 8, 8, 8, 8, 8] [8, 8, 8, 8, 8, 8, 8, 8, 8, 8, 8, 8, 8, 8, 8, 8, 8, 8, 8, 8, 8, 8, 8, 8, 8, 8, 8, 8, 8, 8, 8, 8, 8, 8, 8, 8, 8, 8, 8, 8, 8, 8, 8, 8, 8, 8, 8, 8, 8, 8, 8, 8, 8, 8, 8, 8, 8, 8, 8, 8, 8, 8, 8, 8])) }))) <|
           one (bt { data := List.toArray (List.append (List.append [0, 1, 2, 2, 3, 3, 3, 3, 4, 4, 4, 4, 4, 4, 4, 4, 5, 5, 5, 5, 5, 5, 5, 5, 5, 5, 5, 5, 5, 5, 5, 5, 6, 6, 6, 6, 6, 6, 6, 6, 6, 6, 6, 6, 6, 6, 6, 6, 6, 6, 6, 6, 6, 6, 6, 6, 6, 6, 6, 6, 6, 6, 6, 6] [7, 7, 7, 7, 7, 7, 7, 7, 7, 7, 7, 7, 7, 7, 7, 7, 7, 7, 7, 7, 7, 7, 7, 7, 7, 7, 7, 7, 7, 7, 7, 7, 7, 7, 7, 7, 7, 7, 7, 7, 7, 7, 7, 7, 7, 7, 7, 7, 7, 7, 7, 7, 7, 7, 7, 7, 7, 7, 7, 7, 7, 7, 7, 7]) (List.append [8, 8, 8, 8, 8, 8, 8, 8, 8, 8, 8, 8, 8, 8, 8, 8, 8, 8, 8, 8, 8, 8, 8, 8, 8, 8, 8, 8, 8, 8, 8, 8, 8, 8, 8, 8, 8, 8, 8, 8, 8, 8, 8, 8, 8, 8, 8, 8, 8, 8, 8, 8, 8, 8, 8, 8, 8, 8, 8, 8, 8, 8, 8, 8] [8, 8, 8, 8, 8, 8, 8, 8, 8, 8, 8, 8, 8, 8, 8, 8, 8, 8, 8, 8, 8, 8, 8, 8, 8, 8, 8, 8, 8, 8, 8, 8, 8, 8, 8, 8, 8, 8, 8, 8, 8, 8, 8, 8, 8, 8, 8, 8, 8, 8, 8, 8, 8, 8, 8, 8, 8, 8, 8, 8, 8, 8, 8, 8])) } x81) fun x82 =>
           one (wrapI .i64 x82) fun x83 =>
           one (addI .i64 0 x83) fun x84 =>
           some [.i (x84)])))
def bits_LeadingZeros64 (x : Int) : Option (List Leaf) :=
  out (bits_Len64 x) fun r85 =>
  un_i r85 fun x86 r87 =>
  un_nil r87 <|
  one (subI .i64 64 x86) fun x88 =>
  some [.i (x88)]
def bits_Div64_17_B  {α : Type} (kx : Nat → List Leaf → Option α) (kr : List Leaf → Option α) (again : Int → Int → Int → Int → Int → Int → Int → Int → Int → Option α) (s : Int) (y : Int) (un0 : Int) (yn1 : Int) (yn0 : Int) (un1 : Int) (un32 : Int) (rhat : Int) (q1 : Int) : Option α :=
  br (decide (q1 ≥ 4294967296))
    (one (subI .u64 q1 1) fun x115 =>
     one (addI .u64 rhat yn1) fun x116 =>
     br (decide (x116 ≥ 4294967296))
       (kx 0 [.i (s), .i (y), .i (un0), .i (x115), .i (yn1), .i (yn0), .i (un1), .i (un32)])
       (again (s) (y) (un0) (yn1) (yn0) (un1) (un32) (x116) (x115)))
    (one (mulI .u64 q1 yn0) fun x117 =>
     one (mulI .u64 4294967296 rhat) fun x118 =>
     one (addI .u64 x118 un1) fun x119 =>
     br (decide (x117 > x119))
       (one (subI .u64 q1 1) fun x120 =>
        one (addI .u64 rhat yn1) fun x121 =>
        br (decide (x121 ≥ 4294967296))
          (kx 0 [.i (s), .i (y), .i (un0), .i (x120), .i (yn1), .i (yn0), .i (un1), .i (un32)])
          (again (s) (y) (un0) (yn1) (yn0) (un1) (un32) (x121) (x120)))
       (kx 0 [.i (s), .i (y), .i (un0), .i (q1), .i (yn1), .i (yn0), .i (un1), .i (un32)]))
def bits_Div64_17_L {α : Type} (kx : Nat → List Leaf → Option α) (kr : List Leaf → Option α) : Nat → Int → Int → Int → Int → Int → Int → Int → Int → Int → Option α
  | 0, _, _, _, _, _, _, _, _, _ => none
  | n + 1, s, y, un0, yn1, yn0, un1, un32, rhat, q1 => bits_Div64_17_B  kx kr (bits_Div64_17_L kx kr n) s y un0 yn1 yn0 un1 un32 rhat q1
def bits_Div64_17_F (L17 : ({β : Type} → (Nat → List Leaf → Option β) → (List Leaf → Option β) → Nat → Int → Int → Int → Int → Int → Int → Int → Int → Int → Option β)) {α : Type} (n : Nat) (ls : List Leaf) (kx : Nat → List Leaf → Option α) (kr : List Leaf → Option α) : Option α := un_i ls fun s rr => un_i rr fun y rr => un_i rr fun un0 rr => un_i rr fun yn1 rr => un_i rr fun yn0 rr => un_i rr fun un1 rr => un_i rr fun un32 rr => un_i rr fun rhat rr => un_i rr fun q1 rr => un_nil rr (L17 kx kr n s y un0 yn1 yn0 un1 un32 rhat q1)
def bits_Div64_24_B  {α : Type} (kx : Nat → List Leaf → Option α) (kr : List Leaf → Option α) (again : Int → Int → Int → Int → Int → Int → Int → Int → Int → Option α) (s : Int) (y : Int) (un0 : Int) (un21 : Int) (q1 : Int) (yn1 : Int) (rhat : Int) (q0 : Int) (yn0 : Int) : Option α :=
  br (decide (q0 ≥ 4294967296))
    (one (subI .u64 q0 1) fun x174 =>
     one (addI .u64 rhat yn1) fun x175 =>
     br (decide (x175 ≥ 4294967296))
       (kx 2 [.i (s), .i (y), .i (x174), .i (un0), .i (un21), .i (q1)])
       (again (s) (y) (un0) (un21) (q1) (yn1) (x175) (x174) (yn0)))
    (one (mulI .u64 q0 yn0) fun x176 =>
     one (mulI .u64 4294967296 rhat) fun x177 =>
     one (addI .u64 x177 un0) fun x178 =>
     br (decide (x176 > x178))
       (one (subI .u64 q0 1) fun x179 =>
        one (addI .u64 rhat yn1) fun x180 =>
        br (decide (x180 ≥ 4294967296))
          (kx 2 [.i (s), .i (y), .i (x179), .i (un0), .i (un21), .i (q1)])
          (again (s) (y) (un0) (un21) (q1) (yn1) (x180) (x179) (yn0)))
       (kx 2 [.i (s), .i (y), .i (q0), .i (un0), .i (un21), .i (q1)]))
def bits_Div64_24_L {α : Type} (kx : Nat → List Leaf → Option α) (kr : List Leaf → Option α) : Nat → Int → Int → Int → Int → Int → Int → Int → Int → Int → Option α
  | 0, _, _, _, _, _, _, _, _, _ => none
  | n + 1, s, y, un0, un21, q1, yn1, rhat, q0, yn0 => bits_Div64_24_B  kx kr (bits_Div64_24_L kx kr n) s y un0 un21 q1 yn1 rhat q0 yn0
def bits_Div64_24_F (L24 : ({β : Type} → (Nat → List Leaf → Option β) → (List Leaf → Option β) → Nat → Int → Int → Int → Int → Int → Int → Int → Int → Int → Option β)) {α : Type} (n : Nat) (ls : List Leaf) (kx : Nat → List Leaf → Option α) (kr : List Leaf → Option α) : Option α := un_i ls fun s rr => un_i rr fun y rr => un_i rr fun un0 rr => un_i rr fun un21 rr => un_i rr fun q1 rr => un_i rr fun yn1 rr => un_i rr fun rhat rr => un_i rr fun q0 rr => un_i rr fun yn0 rr => un_nil rr (L24 kx kr n s y un0 un21 q1 yn1 rhat q0 yn0)
def bits_Div64_d (L17 : ({β : Type} → (Nat → List Leaf → Option β) → (List Leaf → Option β) → Nat → Int → Int → Int → Int → Int → Int → Int → Int → Int → Option β)) (L24 : ({β : Type} → (Nat → List Leaf → Option β) → (List Leaf → Option β) → Nat → Int → Int → Int → Int → Int → Int → Int → Int → Int → Option β)) (hi : Int) (lo : Int) (y : Int) : Option (List Leaf) :=
  br (y == 0)
    (none)
    (br (decide (y ≤ hi))
       (none)
       (br (hi == 0)
          (chk (decide (y ≠ 0)) <|
           one (quoI .u64 lo y) fun x181 =>
           chk (decide (y ≠ 0)) <|
           one (remI .u64 lo y) fun x182 =>
           some [.i (x181), .i (x182)])
          (out (bits_LeadingZeros64 y) fun r183 =>
           un_i r183 fun x184 r185 =>
           un_nil r185 <|
           one (wrapI .u64 x184) fun x186 =>
           chk (decide (0 ≤ x186)) <|
           one (shlI .u64 y x186) fun x187 =>
           one (shrI .u64 x187 32) fun x188 =>
           one (andI .u64 x187 4294967295) fun x189 =>
           chk (decide (0 ≤ x186)) <|
           one (shlI .u64 hi x186) fun x190 =>
           one (subI .u64 64 x186) fun x191 =>
           chk (decide (0 ≤ x191)) <|
           one (shrI .u64 lo x191) fun x192 =>
           one (orI .u64 x190 x192) fun x193 =>
           chk (decide (0 ≤ x186)) <|
           one (shlI .u64 lo x186) fun x194 =>
           one (shrI .u64 x194 32) fun x195 =>
           one (andI .u64 x194 4294967295) fun x196 =>
           chk (decide (x188 ≠ 0)) <|
           one (quoI .u64 x193 x188) fun x197 =>
           one (mulI .u64 x197 x188) fun x198 =>
           one (subI .u64 x193 x198) fun x199 =>
           L17
             (fun i200 r201 =>
              br (Nat.beq 0 i200)
                (un_i r201 fun x202 r203 =>
                 un_i r203 fun x204 r205 =>
                 un_i r205 fun x206 r207 =>
                 un_i r207 fun x208 r209 =>
                 un_i r209 fun x210 r211 =>
                 un_i r211 fun x212 r213 =>
                 un_i r213 fun x214 r215 =>
                 un_i r215 fun x216 r217 =>
                 un_nil r217 <|
                 one (mulI .u64 x216 4294967296) fun x218 =>
                 one (addI .u64 x218 x214) fun x219 =>
                 one (mulI .u64 x208 x204) fun x220 =>
                 one (subI .u64 x219 x220) fun x221 =>
                 chk (decide (x210 ≠ 0)) <|
                 one (quoI .u64 x221 x210) fun x222 =>
                 one (mulI .u64 x222 x210) fun x223 =>
                 one (subI .u64 x221 x223) fun x224 =>
                 L24
                   (fun i225 r226 =>
                    br (Nat.beq 2 i225)
                      (un_i r226 fun x227 r228 =>
                       un_i r228 fun x229 r230 =>
                       un_i r230 fun x231 r232 =>
                       un_i r232 fun x233 r234 =>
                       un_i r234 fun x235 r236 =>
                       un_i r236 fun x237 r238 =>
                       un_nil r238 <|
                       one (mulI .u64 x237 4294967296) fun x239 =>
                       one (addI .u64 x239 x231) fun x240 =>
                       one (mulI .u64 x235 4294967296) fun x241 =>
                       one (addI .u64 x241 x233) fun x242 =>
                       one (mulI .u64 x231 x229) fun x243 =>
                       one (subI .u64 x242 x243) fun x244 =>
                       chk (decide (0 ≤ x227)) <|
                       one (shrI .u64 x244 x227) fun x245 =>
                       some [.i (x240), .i (x245)])
                      (none))
                   (fun r246 =>
                    un_nil r246 <|
                    none)
                   top (x202) (x204) (x206) (x221) (x208) (x210) (x224) (x222) (x212))
                (none))
             (fun r247 =>
              un_nil r247 <|
              none)
             top (x186) (x187) (x196) (x188) (x189) (x195) (x193) (x199) (x197))))
def bits_Div64 (hi : Int) (lo : Int) (y : Int) : Option (List Leaf) := bits_Div64_d @bits_Div64_17_L @bits_Div64_24_L hi lo y
def fix_Add (a : Int) (b : Int) : Option (List Leaf) :=
  chk (decide (0 ≤ a ∧ 0 ≤ b)) <|
  one (addLo a b 0) fun x248 =>
  one (addHi a b 0) fun x249 =>
  br (decide (x249 > 0))
    (some [.i (18446744073709551615)])
    (some [.i (x248)])
def fix_Mul (a : Int) (b : Int) : Option (List Leaf) :=
  out (bits_Mul64 a b) fun r250 =>
  un_i r250 fun x251 r252 =>
  un_i r252 fun x253 r254 =>
  un_nil r254 <|
  br (decide (x251 > 0))
    (some [.i (18446744073709551615)])
    (some [.i (x253)])
def fix_MulDiv (a : Int) (b : Int) (c : Int) : Option (List Leaf) :=
  out (bits_Mul64 a b) fun r255 =>
  un_i r255 fun x256 r257 =>
  un_i r257 fun x258 r259 =>
  un_nil r259 <|
  br (decide (x256 ≥ c))
    (some [.i (18446744073709551615)])
    (out (bits_Div64 x256 x258 c) fun r260 =>
     un_i r260 fun x261 r262 =>
     un_i r262 fun x263 r264 =>
     un_nil r264 <|
     some [.i (x261)])
def fix_SqrtMul_4_B  {α : Type} (kx : Nat → List Leaf → Option α) (kr : List Leaf → Option α) (again : Int → Int → Int → Int → Option α) (bit : Int) (root : Int) (low : Int) (high : Int) : Option α :=
  br (decide (bit > 0))
    (one (orI .u64 root bit) fun x283 =>
     one (orI .u64 root bit) fun x284 =>
     out (bits_Mul64 x283 x284) fun r285 =>
     un_i r285 fun x286 r287 =>
     un_i r287 fun x288 r289 =>
     un_nil r289 <|
     br (decide (x286 < high))
       (one (orI .u64 root bit) fun x290 =>
        one (shrI .u64 bit 1) fun x291 =>
        again (x291) (x290) (low) (high))
       (br (x286 == high)
          (br (decide (x288 ≤ low))
             (one (orI .u64 root bit) fun x292 =>
              one (shrI .u64 bit 1) fun x293 =>
              again (x293) (x292) (low) (high))
             (one (shrI .u64 bit 1) fun x294 =>
              again (x294) (root) (low) (high)))
          (one (shrI .u64 bit 1) fun x295 =>
           again (x295) (root) (low) (high))))
    (kx 0 [.i (root)])
def fix_SqrtMul_4_L {α : Type} (kx : Nat → List Leaf → Option α) (kr : List Leaf → Option α) : Nat → Int → Int → Int → Int → Option α
  | 0, _, _, _, _ => none
  | n + 1, bit, root, low, high => fix_SqrtMul_4_B  kx kr (fix_SqrtMul_4_L kx kr n) bit root low high
def fix_SqrtMul_4_F (L4 : ({β : Type} → (Nat → List Leaf → Option β) → (List Leaf → Option β) → Nat → Int → Int → Int → Int → Option β)) {α : Type} (n : Nat) (ls : List Leaf) (kx : Nat → List Leaf → Option α) (kr : List Leaf → Option α) : Option α := un_i ls fun bit rr => un_i rr fun root rr => un_i rr fun low rr => un_i rr fun high rr => un_nil rr (L4 kx kr n bit root low high)
def fix_SqrtMul_d (L4 : ({β : Type} → (Nat → List Leaf → Option β) → (List Leaf → Option β) → Nat → Int → Int → Int → Int → Option β)) (a : Int) (b : Int) : Option (List Leaf) :=
  out (bits_Mul64 a b) fun r296 =>
  un_i r296 fun x297 r298 =>
  un_i r298 fun x299 r300 =>
  un_nil r300 <|
  L4
    (fun i301 r302 =>
     br (Nat.beq 0 i301)
       (un_i r302 fun x303 r304 =>
        un_nil r304 <|
        some [.i (x303)])
       (none))
    (fun r305 =>
     un_nil r305 <|
     none)
    top (9223372036854775808) (0) (x299) (x297)
def fix_SqrtMul (a : Int) (b : Int) : Option (List Leaf) := fix_SqrtMul_d @fix_SqrtMul_4_L a b
def fix_Sqrt (n2 : Int) : Option (List Leaf) :=
  out (fix_SqrtMul n2 1) fun r306 =>
  un_i r306 fun x307 r308 =>
  un_nil r308 <|
  some [.i (x307)]
def ref_Seq (n2 : Int) : Option (List Leaf) :=
  one (remI .u64 n2 281474976710656) fun x309 =>
  some [.i (x309)]
def ref_Add (a : Int) (b : Int) : Option (List Leaf) :=
  one (subI .u64 18446744073709551615 a) fun x310 =>
  br (decide (b > x310))
    (some [.i (18446744073709551615)])
    (one (addI .u64 a b) fun x311 =>
     some [.i (x311)])
def ref_Over (a : Int) (b : Int) (c : Int) (d : Int) : Option (List Leaf) :=
  br (decide (a > c))
    (some [.b (true)])
    (br (a == c)
       (some [.b (decide (b > d))])
       (some [.b (false)]))
def ref_Wide (a : Int) (b : Int) : Option (List Leaf) :=
  one (remI .u64 a 4294967296) fun x312 =>
  one (quoI .u64 a 4294967296) fun x313 =>
  one (remI .u64 b 4294967296) fun x314 =>
  one (quoI .u64 b 4294967296) fun x315 =>
  one (mulI .u64 x312 x314) fun x316 =>
  one (mulI .u64 x313 x314) fun x317 =>
  one (quoI .u64 x316 4294967296) fun x318 =>
  one (addI .u64 x317 x318) fun x319 =>
  one (mulI .u64 x312 x315) fun x320 =>
  one (remI .u64 x319 4294967296) fun x321 =>
  one (addI .u64 x320 x321) fun x322 =>
  one (mulI .u64 x313 x315) fun x323 =>
  one (quoI .u64 x319 4294967296) fun x324 =>
  one (addI .u64 x323 x324) fun x325 =>
  one (quoI .u64 x322 4294967296) fun x326 =>
  one (addI .u64 x325 x326) fun x327 =>
  one (remI .u64 x322 4294967296) fun x328 =>
  one (mulI .u64 x328 4294967296) fun x329 =>
  one (remI .u64 x316 4294967296) fun x330 =>
  one (addI .u64 x329 x330) fun x331 =>
  some [.i (x327), .i (x331)]
def ref_MulDiv_7_B  {α : Type} (kx : Nat → List Leaf → Option α) (kr : List Leaf → Option α) (again : Int → Int → Int → Int → Int → Option α) (i : Int) (c : Int) (q : Int) (l : Int) (rest : Int) : Option α :=
  br (decide (i ≥ 0))
    (one (mulI .u64 rest 2) fun x350 =>
     one (wrapI .u64 i) fun x351 =>
     chk (decide (0 ≤ x351)) <|
     one (shrI .u64 l x351) fun x352 =>
     one (remI .u64 x352 2) fun x353 =>
     one (addI .u64 x350 x353) fun x354 =>
     one (mulI .u64 q 2) fun x355 =>
     br (decide (rest ≥ 9223372036854775808))
       (one (subI .u64 x354 c) fun x356 =>
        one (addI .u64 x355 1) fun x357 =>
        one (subI .i64 i 1) fun x358 =>
        again (x358) (c) (x357) (l) (x356))
       (br (decide (x354 ≥ c))
          (one (subI .u64 x354 c) fun x359 =>
           one (addI .u64 x355 1) fun x360 =>
           one (subI .i64 i 1) fun x361 =>
           again (x361) (c) (x360) (l) (x359))
          (one (subI .i64 i 1) fun x362 =>
           again (x362) (c) (x355) (l) (x354))))
    (kx 0 [.i (q)])
def ref_MulDiv_7_L {α : Type} (kx : Nat → List Leaf → Option α) (kr : List Leaf → Option α) : Nat → Int → Int → Int → Int → Int → Option α
  | 0, _, _, _, _, _ => none
  | n + 1, i, c, q, l, rest => ref_MulDiv_7_B  kx kr (ref_MulDiv_7_L kx kr n) i c q l rest
def ref_MulDiv_7_F (L7 : ({β : Type} → (Nat → List Leaf → Option β) → (List Leaf → Option β) → Nat → Int → Int → Int → Int → Int → Option β)) {α : Type} (n : Nat) (ls : List Leaf) (kx : Nat → List Leaf → Option α) (kr : List Leaf → Option α) : Option α := un_i ls fun i rr => un_i rr fun c rr => un_i rr fun q rr => un_i rr fun l rr => un_i rr fun rest rr => un_nil rr (L7 kx kr n i c q l rest)
def ref_MulDiv_d (L7 : ({β : Type} → (Nat → List Leaf → Option β) → (List Leaf → Option β) → Nat → Int → Int → Int → Int → Int → Option β)) (a : Int) (b : Int) (c : Int) : Option (List Leaf) :=
  out (ref_Wide a b) fun r363 =>
  un_i r363 fun x364 r365 =>
  un_i r365 fun x366 r367 =>
  un_nil r367 <|
  br (c == 0)
    (some [.i (18446744073709551615)])
    (br (decide (x364 ≥ c))
       (some [.i (18446744073709551615)])
       (L7
          (fun i368 r369 =>
           br (Nat.beq 0 i368)
             (un_i r369 fun x370 r371 =>
              un_nil r371 <|
              some [.i (x370)])
             (none))
          (fun r372 =>
           un_nil r372 <|
           none)
          top (63) (c) (0) (x366) (x364)))
def ref_MulDiv (a : Int) (b : Int) (c : Int) : Option (List Leaf) := ref_MulDiv_d @ref_MulDiv_7_L a b c
def ref_SqrtMul_4_B  {α : Type} (kx : Nat → List Leaf → Option α) (kr : List Leaf → Option α) (again : Int → Int → Int → Int → Option α) (i : Int) (l : Int) (h : Int) (r : Int) : Option α :=
  br (decide (i ≥ 0))
    (chk (decide (0 ≤ i)) <|
     one (shlI .u64 1 i) fun x390 =>
     one (addI .u64 r x390) fun x391 =>
     out (ref_Wide x391 x391) fun r392 =>
     un_i r392 fun x393 r394 =>
     un_i r394 fun x395 r396 =>
     un_nil r396 <|
     out (ref_Over x393 x395 h l) fun r397 =>
     un_b r397 fun x398 r399 =>
     un_nil r399 <|
     br (!x398)
       (one (subI .i64 i 1) fun x400 =>
        again (x400) (l) (h) (x391))
       (one (subI .i64 i 1) fun x401 =>
        again (x401) (l) (h) (r)))
    (kx 0 [.i (r)])
def ref_SqrtMul_4_L {α : Type} (kx : Nat → List Leaf → Option α) (kr : List Leaf → Option α) : Nat → Int → Int → Int → Int → Option α
  | 0, _, _, _, _ => none
  | n + 1, i, l, h, r => ref_SqrtMul_4_B  kx kr (ref_SqrtMul_4_L kx kr n) i l h r
def ref_SqrtMul_4_F (L4 : ({β : Type} → (Nat → List Leaf → Option β) → (List Leaf → Option β) → Nat → Int → Int → Int → Int → Option β)) {α : Type} (n : Nat) (ls : List Leaf) (kx : Nat → List Leaf → Option α) (kr : List Leaf → Option α) : Option α := un_i ls fun i rr => un_i rr fun l rr => un_i rr fun h rr => un_i rr fun r rr => un_nil rr (L4 kx kr n i l h r)
def ref_SqrtMul_d (L4 : ({β : Type} → (Nat → List Leaf → Option β) → (List Leaf → Option β) → Nat → Int → Int → Int → Int → Option β)) (a : Int) (b : Int) : Option (List Leaf) :=
  out (ref_Wide a b) fun r402 =>
  un_i r402 fun x403 r404 =>
  un_i r404 fun x405 r406 =>
  un_nil r406 <|
  L4
    (fun i407 r408 =>
     br (Nat.beq 0 i407)
       (un_i r408 fun x409 r410 =>
        un_nil r410 <|
        some [.i (x409)])
       (none))
    (fun r411 =>
     un_nil r411 <|
     none)
    top (63) (x405) (x403) (0)
def ref_SqrtMul (a : Int) (b : Int) : Option (List Leaf) := ref_SqrtMul_d @ref_SqrtMul_4_L a b
def ref_Sqrt (n2 : Int) : Option (List Leaf) :=
  out (ref_SqrtMul n2 1) fun r412 =>
  un_i r412 fun x413 r414 =>
  un_nil r414 <|
  some [.i (x413)]
def ref_Mul (a : Int) (b : Int) : Option (List Leaf) :=
  out (ref_Wide a b) fun r415 =>
  un_i r415 fun x416 r417 =>
  un_i r417 fun x418 r419 =>
  un_nil r419 <|
  br (decide (x416 > 0))
    (some [.i (18446744073709551615)])
    (some [.i (x418)])
def eqn_F (n2 : Int) : Option (List Leaf) :=
  one (maxI n2 1) fun x420 =>
  one (minI x420 4294967296) fun x421 =>
  out (fix_MulDiv 8589934592 x421 3) fun r422 =>
  un_i r422 fun x423 r424 =>
  un_nil r424 <|
  out (fix_Sqrt x423) fun r425 =>
  un_i r425 fun x426 r427 =>
  un_nil r427 <|
  out (fix_MulDiv 12884901888 x421 8) fun r428 =>
  un_i r428 fun x429 r430 =>
  un_nil r430 <|
  out (fix_Sqrt x429) fun r431 =>
  un_i r431 fun x432 r433 =>
  un_nil r433 <|
  one (mulI .u64 32 x421) fun x434 =>
  out (fix_MulDiv x434 x421 4294967296) fun r435 =>
  un_i r435 fun x436 r437 =>
  un_nil r437 <|
  one (addI .u64 4294967296 x436) fun x438 =>
  out (fix_MulDiv x432 x421 4294967296) fun r439 =>
  un_i r439 fun x440 r441 =>
  un_nil r441 <|
  out (fix_MulDiv x440 x438 4294967296) fun r442 =>
  un_i r442 fun x443 r444 =>
  un_nil r444 <|
  one (mulI .u64 12 x443) fun x445 =>
  one (addI .u64 x426 x445) fun x446 =>
  some [.i (x446)]
def eqn_Rate (s : Int) (r : Int) (n2 : Int) : Option (List Leaf) :=
  one (maxI s 1) fun x447 =>
  one (minI x447 65535) fun x448 =>
  one (maxI r 1) fun x449 =>
  one (minI x449 4294967296) fun x450 =>
  one (mulI .u64 64000000 x448) fun x451 =>
  out (eqn_F n2) fun r452 =>
  un_i r452 fun x453 r454 =>
  un_nil r454 <|
  out (fix_MulDiv x451 4294967296 x453) fun r455 =>
  un_i r455 fun x456 r457 =>
  un_nil r457 <|
  chk (decide (x450 ≠ 0)) <|
  one (quoI .u64 x456 x450) fun x458 =>
  some [.i (x458)]
def ref_F (n2 : Int) : Option (List Leaf) :=
  one (minI n2 4294967296) fun x459 =>
  one (maxI 1 x459) fun x460 =>
  out (ref_MulDiv 8589934592 x460 3) fun r461 =>
  un_i r461 fun x462 r463 =>
  un_nil r463 <|
  out (ref_Sqrt x462) fun r464 =>
  un_i r464 fun x465 r466 =>
  un_nil r466 <|
  out (ref_MulDiv 12884901888 x460 8) fun r467 =>
  un_i r467 fun x468 r469 =>
  un_nil r469 <|
  out (ref_Sqrt x468) fun r470 =>
  un_i r470 fun x471 r472 =>
  un_nil r472 <|
  one (mulI .u64 32 x460) fun x473 =>
  out (ref_MulDiv x473 x460 4294967296) fun r474 =>
  un_i r474 fun x475 r476 =>
  un_nil r476 <|
  one (addI .u64 4294967296 x475) fun x477 =>
  out (ref_MulDiv x471 x460 4294967296) fun r478 =>
  un_i r478 fun x479 r480 =>
  un_nil r480 <|
  out (ref_MulDiv x479 x477 4294967296) fun r481 =>
  un_i r481 fun x482 r483 =>
  un_nil r483 <|
  one (mulI .u64 12 x482) fun x484 =>
  one (addI .u64 x465 x484) fun x485 =>
  some [.i (x485)]
def ref_Rate (s : Int) (r : Int) (n2 : Int) : Option (List Leaf) :=
  one (minI s 65535) fun x486 =>
  one (maxI 1 x486) fun x487 =>
  one (minI r 4294967296) fun x488 =>
  one (maxI 1 x488) fun x489 =>
  one (mulI .u64 64000000 x487) fun x490 =>
  out (ref_F n2) fun r491 =>
  un_i r491 fun x492 r493 =>
  un_nil r493 <|
  out (ref_MulDiv x490 4294967296 x492) fun r494 =>
  un_i r494 fun x495 r496 =>
  un_nil r496 <|
  chk (decide (x489 ≠ 0)) <|
  one (quoI .u64 x495 x489) fun x497 =>
  some [.i (x497)]
end Go.Sx.T

