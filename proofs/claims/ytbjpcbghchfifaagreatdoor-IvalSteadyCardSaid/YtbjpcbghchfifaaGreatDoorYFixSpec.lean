import Derived.Test.YtbjpcbghchfifaaGreatDoorYLowSpec
set_option linter.all false
namespace Go.Sx.T
open Go Go.Sx
def bits_Mul64 (x : Int) (y : Int) : Option (List Leaf) :=
  one (andI .u64 x 4294967295) fun x47 =>
  one (shrI .u64 x 32) fun x48 =>
  one (andI .u64 y 4294967295) fun x49 =>
  one (shrI .u64 y 32) fun x50 =>
  one (mulI .u64 x47 x49) fun x51 =>
  one (mulI .u64 x48 x49) fun x52 =>
  one (shrI .u64 x51 32) fun x53 =>
  one (addI .u64 x52 x53) fun x54 =>
  one (andI .u64 x54 4294967295) fun x55 =>
  one (shrI .u64 x54 32) fun x56 =>
  one (mulI .u64 x47 x50) fun x57 =>
  one (addI .u64 x55 x57) fun x58 =>
  one (mulI .u64 x48 x50) fun x59 =>
  one (addI .u64 x59 x56) fun x60 =>
  one (shrI .u64 x58 32) fun x61 =>
  one (addI .u64 x60 x61) fun x62 =>
  one (mulI .u64 x y) fun x63 =>
  some [.i (x62), .i (x63)]
def bits_Len64 (x : Int) : Option (List Leaf) :=
  br (decide (x ≥ 4294967296))
    (one (shrI .u64 x 32) fun x64 =>
     br (decide (x64 ≥ 65536))
       (one (shrI .u64 x64 16) fun x65 =>
        one (addI .i64 32 16) fun x66 =>
        br (decide (x65 ≥ 256))
          (one (shrI .u64 x65 8) fun x67 =>
           one (addI .i64 x66 8) fun x68 =>
           one (wrapI .u8 x67) fun x69 =>
           chk (decide (0 ≤ x69 ∧ x69 < ↑(ByteArray.size { data := List.toArray (List.append (List.append [0, 1, 2, 2, 3, 3, 3, 3, 4, 4, 4, 4, 4, 4, 4, 4, 5, 5, 5, 5, 5, 5, 5, 5, 5, 5, 5, 5, 5, 5, 5, 5, 6, 6, 6, 6, 6, 6, 6, 6, 6, 6, 6, 6, 6, 6, 6, 6, 6, 6, 6, 6, 6, 6, 6, 6, 6, 6, 6, 6, 6, 6, 6, 6] [7, 7, 7, 7, 7, 7, 7, 7, 7, 7, 7, 7, 7, 7, 7, 7, 7, 7, 7, 7, 7, 7, 7, 7, 7, 7, 7, 7, 7, 7, 7, 7, 7, 7, 7, 7, 7, 7, 7, 7, 7, 7, 7, 7, 7, 7, 7, 7, 7, 7, 7, 7, 7, 7, 7, 7, 7, 7, 7, 7, 7, 7, 7, 7]) (List.append [8, 8, 8, 8, 8, 8, 8, 8, 8, 8, 8, 8, 8, 8, 8, 8, 8, 8, 8, 8, 8, 8, 8, 8, 8, 8, 8, 8, 8, 8, 8, 8, 8, 8, 8, 8, 8, 8, 8, 8, 8, 8, 8, 8, 8, 8, 8, 8, 8, 8, 8, 8, 8, 8, 8, 8, 8, 8, 8, 8, 8, 8, 8, 8] [8, 8, 8, 8, 8, 8, 8, 8, 8, 8, 8, 8, 8, 8, 8, 8, 8, 8, 8, 8, 8, 8, 8, 8, 8, 8, 8, 8, 8, 8, 8, 8, 8, 8, 8, 8, 8, 8, 8, 8, 8, 8, 8, 8, 8, 8, 8, 8, 8, 8, 8, 8, 8, 8, 8, 8, 8, 8, 8, 8, 8, 8, 8, 8])) }))) <|
           one (bt { data := List.toArray (List.append (List.append [0, 1, 2, 2, 3, 3, 3, 3, 4, 4, 4, 4, 4, 4, 4, 4, 5, 5, 5, 5, 5, 5, 5, 5, 5, 5, 5, 5, 5, 5, 5, 5, 6, 6, 6, 6, 6, 6, 6, 6, 6, 6, 6, 6, 6, 6, 6, 6, 6, 6, 6, 6, 6, 6, 6, 6, 6, 6, 6, 6, 6, 6, 6, 6] [7, 7, 7, 7, 7, 7, 7, 7, 7, 7, 7, 7, 7, 7, 7, 7, 7, 7, 7, 7, 7, 7, 7, 7, 7, 7, 7, 7, 7, 7, 7, 7, 7, 7, 7, 7, 7, 7, 7, 7, 7, 7, 7, 7, 7, 7, 7, 7, 7, 7, 7, 7, 7, 7, 7, 7, 7, 7, 7, 7, 7, 7, 7, 7]) (List.append [8, 8, 8, 8, 8, 8, 8, 8, 8, 8, 8, 8, 8, 8, 8, 8, 8, 8, 8, 8, 8, 8, 8, 8, 8, 8, 8, 8, 8, 8, 8, 8, 8, 8, 8, 8, 8, 8, 8, 8, 8, 8, 8, 8, 8, 8, 8, 8, 8, 8, 8, 8, 8, 8, 8, 8, 8, 8, 8, 8, 8, 8, 8, 8] [8, 8, 8, 8, 8, 8, 8, 8, 8, 8, 8, 8, 8, 8, 8, 8, 8, 8, 8, 8, 8, 8, 8, 8, 8, 8, 8, 8, 8, 8, 8, 8, 8, 8, 8, 8, 8, 8, 8, 8, 8, 8, 8, 8, 8, 8, 8, 8, 8, 8, 8, 8, 8, 8, 8, 8, 8, 8, 8, 8, 8, 8, 8, 8])) } x69) fun x70 =>
           one (wrapI .i64 x70) fun x71 =>
           one (addI .i64 x68 x71) fun x72 =>
           some [.i (x72)])
          (one (wrapI .u8 x65) fun x73 =>
           chk (decide (0 ≤ x73 ∧ x73 < ↑(ByteArray.size { data := List.toArray (List.append (List.append [0, 1, 2, 2, 3, 3, 3, 3, 4, 4, 4, 4, 4, 4, 4, 4, 5, 5, 5, 5, 5, 5, 5, 5, 5, 5, 5, 5, 5, 5, 5, 5, 6, 6, 6, 6, 6, 6, 6, 6, 6, 6, 6, 6, 6, 6, 6, 6, 6, 6, 6, 6, 6, 6, 6, 6, 6, 6, 6, 6, 6, 6, 6, 6] [7, 7, 7, 7, 7, 7, 7, 7, 7, 7, 7, 7, 7, 7, 7, 7, 7, 7, 7, 7, 7, 7, 7, 7, 7, 7, 7, 7, 7, 7, 7, 7, 7, 7, 7, 7, 7, 7, 7, 7, 7, 7, 7, 7, 7, 7, 7, 7, 7, 7, 7, 7, 7, 7, 7, 7, 7, 7, 7, 7, 7, 7, 7, 7]) (List.append [8, 8, 8, 8, 8, 8, 8, 8, 8, 8, 8, 8, 8, 8, 8, 8, 8, 8, 8, 8, 8, 8, 8, 8, 8, 8, 8, 8, 8, 8, 8, 8, 8, 8, 8, 8, 8, 8, 8, 8, 8, 8, 8, 8, 8, 8, 8, 8, 8, 8, 8, 8, 8, 8, 8, 8, 8, 8, 8, 8, 8, 8, 8, 8] [8, 8, 8, 8, 8, 8, 8, 8, 8, 8, 8, 8, 8, 8, 8, 8, 8, 8, 8, 8, 8, 8, 8, 8, 8, 8, 8, 8, 8, 8, 8, 8, 8, 8, 8, 8, 8, 8, 8, 8, 8, 8, 8, 8, 8, 8, 8, 8, 8, 8, 8, 8, 8, 8, 8, 8, 8, 8, 8, 8, 8, 8, 8, 8])) }))) <|
           one (bt { data := List.toArray (List.append (List.append [0, 1, 2, 2, 3, 3, 3, 3, 4, 4, 4, 4, 4, 4, 4, 4, 5, 5, 5, 5, 5, 5, 5, 5, 5, 5, 5, 5, 5, 5, 5, 5, 6, 6, 6, 6, 6, 6, 6, 6, 6, 6, 6, 6, 6, 6, 6, 6, 6, 6, 6, 6, 6, 6, 6, 6, 6, 6, 6, 6, 6, 6, 6, 6] [7, 7, 7, 7, 7, 7, 7, 7, 7, 7, 7, 7, 7, 7, 7, 7, 7, 7, 7, 7, 7, 7, 7, 7, 7, 7, 7, 7, 7, 7, 7, 7, 7, 7, 7, 7, 7, 7, 7, 7, 7, 7, 7, 7, 7, 7, 7, 7, 7, 7, 7, 7, 7, 7, 7, 7, 7, 7, 7, 7, 7, 7, 7, 7]) (List.append [8, 8, 8, 8, 8, 8, 8, 8, 8, 8, 8, 8, 8, 8, 8, 8, 8, 8, 8, 8, 8, 8, 8, 8, 8, 8, 8, 8, 8, 8, 8, 8, 8, 8, 8, 8, 8, 8, 8, 8, 8, 8, 8, 8, 8, 8, 8, 8, 8, 8, 8, 8, 8, 8, 8, 8, 8, 8, 8, 8, 8, 8, 8, 8] [8, 8, 8, 8, 8, 8, 8, 8, 8, 8, 8, 8, 8, 8, 8, 8, 8, 8, 8, 8, 8, 8, 8, 8, 8, 8, 8, 8, 8, 8, 8, 8, 8, 8, 8, 8, 8, 8, 8, 8, 8, 8, 8, 8, 8, 8, 8, 8, 8, 8, 8, 8, 8, 8, 8, 8, 8, 8, 8, 8, 8, 8, 8, 8])) } x73) fun x74 =>
           one (wrapI .i64 x74) fun x75 =>
           one (addI .i64 x66 x75) fun x76 =>
           some [.i (x76)]))
       (br (decide (x64 ≥ 256))
          (one (shrI .u64 x64 8) fun x77 =>
           one (addI .i64 32 8) fun x78 =>
           one (wrapI .u8 x77) fun x79 =>
           chk (decide (0 ≤ x79 ∧ x79 < ↑(ByteArray.size { data := List.toArray (List.append (List.append [0, 1, 2, 2, 3, 3, 3, 3, 4, 4, 4, 4, 4, 4, 4, 4, 5, 5, 5, 5, 5, 5, 5, 5, 5, 5, 5, 5, 5, 5, 5, 5, 6, 6, 6, 6, 6, 6, 6, 6, 6, 6, 6, 6, 6, 6, 6, 6, 6, 6, 6, 6, 6, 6, 6, 6, 6, 6, 6, 6, 6, 6, 6, 6] [7, 7, 7, 7, 7, 7, 7, 7, 7, 7, 7, 7, 7, 7, 7, 7, 7, 7, 7, 7, 7, 7, 7, 7, 7, 7, 7, 7, 7, 7, 7, 7, 7, 7, 7, 7, 7, 7, 7, 7, 7, 7, 7, 7, 7, 7, 7, 7, 7, 7, 7, 7, 7, 7, 7, 7, 7, 7, 7, 7, 7, 7, 7, 7]) (List.append [8, 8, 8, 8, 8, 8, 8, 8, 8, 8, 8, 8, 8, 8, 8, 8, 8, 8, 8, 8, 8, 8, 8, 8, 8, 8, 8, 8, 8, 8, 8, 8, 8, 8, 8, 8, 8, 8, 8, 8, 8, 8, 8, 8, 8, 8, 8, 8, 8, 8, 8, 8, 8, 8, 8, 8, 8, 8, 8, 8, 8, 8, 8, 8] [8, 8, 8, 8, 8, 8, 8, 8, 8, 8, 8, 8, 8, 8, 8, 8, 8, 8, 8, 8, 8, 8, 8, 8, 8, 8, 8, 8, 8, 8, 8, 8, 8, 8, 8, 8, 8, 8, 8, 8, 8, 8, 8, 8, 8, 8, 8, 8, 8, 8, 8, 8, 8, 8, 8, 8, 8, 8, 8, 8, 8, 8, 8, 8])) }))) <|
           one (bt { data := List.toArray (List.append (List.append [0, 1, 2, 2, 3, 3, 3, 3, 4, 4, 4, 4, 4, 4, 4, 4, 5, 5, 5, 5, 5, 5, 5, 5, 5, 5, 5, 5, 5, 5, 5, 5, 6, 6, 6, 6, 6, 6, 6, 6, 6, 6, 6, 6, 6, 6, 6, 6, 6, 6, 6, 6, 6, 6, 6, 6, 6, 6, 6, 6, 6, 6, 6, 6] [7, 7, 7, 7, 7, 7, 7, 7, 7, 7, 7, 7, 7, 7, 7, 7, 7, 7, 7, 7, 7, 7, 7, 7, 7, 7, 7, 7, 7, 7, 7, 7, 7, 7, 7, 7, 7, 7, 7, 7, 7, 7, 7, 7, 7, 7, 7, 7, 7, 7, 7, 7, 7, 7, 7, 7, 7, 7, 7, 7, 7, 7, 7, 7]) (List.append [8, 8, 8, 8, 8, 8, 8, 8, 8, 8, 8, 8, 8, 8, 8, 8, 8, 8, 8, 8, 8, 8, 8, 8, 8, 8, 8, 8, 8, 8, 8, 8, 8, 8, 8, 8, 8, 8, 8, 8, 8, 8, 8, 8, 8, 8, 8, 8, 8, 8, 8, 8, 8, 8, 8, 8, 8, 8, 8, 8, 8, 8, 8, 8] [8, 8, 8, 8, 8, 8, 8, 8, 8, 8, 8, 8, 8, 8, 8, 8, 8, 8, 8, 8, 8, 8, 8, 8, 8, 8, 8, 8, 8, 8, 8, 8, 8, 8, 8, 8, 8, 8, 8, 8, 8, 8, 8, 8, 8, 8, 8, 8, 8, 8, 8, 8, 8, 8, 8, 8, 8, 8, 8, 8, 8, 8, 8, 8])) } x79) fun x80 =>
           one (wrapI .i64 x80) fun x81 =>
           one (addI .i64 x78 x81) fun x82 =>
           some [.i (x82)])
          (one (wrapI .u8 x64) fun x83 =>
           chk (decide (0 ≤ x83 ∧ x83 < ↑(ByteArray.size { data := List.toArray (List.append (List.append [0, 1, 2, 2, 3, 3, 3, 3, 4, 4, 4, 4, 4, 4, 4, 4, 5, 5, 5, 5, 5, 5, 5, 5, 5, 5, 5, 5, 5, 5, 5, 5, 6, 6, 6, 6, 6, 6, 6, 6, 6, 6, 6, 6, 6, 6, 6, 6, 6, 6, 6, 6, 6, 6, 6, 6, 6, 6, 6, 6, 6, 6, 6, 6] [7, 7, 7, 7, 7, 7, 7, 7, 7, 7, 7, 7, 7, 7, 7, 7, 7, 7, 7, 7, 7, 7, 7, 7, 7, 7, 7, 7, 7, 7, 7, 7, 7, 7, 7, 7, 7, 7, 7, 7, 7, 7, 7, 7, 7, 7, 7, 7, 7, 7, 7, 7, 7, 7, 7, 7, 7, 7, 7, 7, 7, 7, 7, 7]) (List.append [8, 8, 8, 8, 8, 8, 8, 8, 8, 8, 8, 8, 8, 8, 8, 8, 8, 8, 8, 8, 8, 8, 8, 8, 8, 8, 8, 8, 8, 8, 8, 8, 8, 8, 8, 8, 8, 8, 8, 8, 8, 8, 8, 8, 8, 8, 8, 8, 8, 8, 8, 8, 8, 8, 8, 8, 8, 8, 8, 8, 8, 8, 8, 8] [8, 8, 8, 8, 8, 8, 8, 8, 8, 8, 8, 8, 8, 8, 8, 8, 8, 8, 8, 8, 8, 8, 8, 8, 8, 8, 8, 8, 8, 8, 8, 8, 8, 8, 8, 8, 8, 8, 8, 8, 8, 8, 8, 8, 8, 8, 8, 8, 8, 8, 8, 8, 8, 8, 8, 8, 8, 8, 8, 8, 8, 8, 8, 8])) }))) <|
           one (bt { data := List.toArray (List.append (List.append [0, 1, 2, 2, 3, 3, 3, 3, 4, 4, 4, 4, 4, 4, 4, 4, 5, 5, 5, 5, 5, 5, 5, 5, 5, 5, 5, 5, 5, 5, 5, 5, 6, 6, 6, 6, 6, 6, 6, 6, 6, 6, 6, 6, 6, 6, 6, 6, 6, 6, 6, 6, 6, 6, 6, 6, 6, 6, 6, 6, 6, 6, 6, 6] [7, 7, 7, 7, 7, 7, 7, 7, 7, 7, 7, 7, 7, 7, 7, 7, 7, 7, 7, 7, 7, 7, 7, 7, 7, 7, 7, 7, 7, 7, 7, 7, 7, 7, 7, 7, 7, 7, 7, 7, 7, 7, 7, 7, 7, 7, 7, 7, 7, 7, 7, 7, 7, 7, 7, 7, 7, 7, 7, 7, 7, 7, 7, 7]) (List.append [8, 8, 8, 8, 8, 8, 8, 8, 8, 8, 8, 8, 8, 8, 8, 8, 8, 8, 8, 8, 8, 8, 8, 8, 8, 8, 8, 8, 8, 8, 8, 8, 8, 8, 8, 8, 8, 8, 8, 8, 8, 8, 8, 8, 8, 8, 8, 8, 8, 8, 8, 8, 8, 8, 8, 8, 8, 8, 8, 8, 8, 8, 8, 8] [8, 8, 8, 8, 8, 8, 8, 8, 8, 8, 8, 8, 8, 8, 8, 8, 8, 8, 8, 8, 8, 8, 8, 8, 8, 8, 8, 8, 8, 8, 8, 8, 8, 8, 8, 8, 8, 8, 8, 8, 8, 8, 8, 8, 8, 8, 8, 8, 8, 8, 8, 8, 8, 8, 8, 8, 8, 8, 8, 8, 8, 8, 8, 8])) } x83) fun x84 =>
           one (wrapI .i64 x84) fun x85 =>
           one (addI .i64 32 x85) fun x86 =>
           some [.i (x86)])))
    (br (decide (x ≥ 65536))
       (one (shrI .u64 x 16) fun x87 =>
        one (addI .i64 0 16) fun x88 =>
        br (decide (x87 ≥ 256))
          (one (shrI .u64 x87 8) fun x89 =>
           one (addI .i64 x88 8) fun x90 =>
           one (wrapI .u8 x89) fun x91 =>
           chk (decide (0 ≤ x91 ∧ x91 < ↑(ByteArray.size { data := List.toArray (List.append (List.append [0, 1, 2, 2, 3, 3, 3, 3, 4, 4, 4, 4, 4, 4, 4, 4, 5, 5, 5, 5, 5, 5, 5, 5, 5, 5, 5, 5, 5, 5, 5, 5, 6, 6, 6, 6, 6, 6, 6, 6, 6, 6, 6, 6, 6, 6, 6, 6, 6, 6, 6, 6, 6, 6, 6, 6, 6, 6, 6, 6, 6, 6, 6, 6] [7, 7, 7, 7, 7, 7, 7, 7, 7, 7, 7, 7, 7, 7, 7, 7, 7, 7, 7, 7, 7, 7, 7, 7, 7, 7, 7, 7, 7, 7, 7, 7, 7, 7, 7, 7, 7, 7, 7, 7, 7, 7, 7, 7, 7, 7, 7, 7, 7, 7, 7, 7, 7, 7, 7, 7, 7, 7, 7, 7, 7, 7, 7, 7]) (List.append [8, 8, 8, 8, 8, 8, 8, 8, 8, 8, 8, 8, 8, 8, 8, 8, 8, 8, 8, 8, 8, 8, 8, 8, 8, 8, 8, 8, 8, 8, 8, 8, 8, 8, 8, 8, 8, 8, 8, 8, 8, 8, 8, 8, 8, 8, 8, 8, 8, 8, 8, 8, 8, 8, 8, 8, 8, 8, 8, 8, 8, 8, 8, 8] [8, 8, 8, 8, 8, 8, 8, 8, 8, 8, 8, 8, 8, 8, 8, 8, 8, 8, 8, 8, 8, 8, 8, 8, 8, 8, 8, 8, 8, 8, 8, 8, 8, 8, 8, 8, 8, 8, 8, 8, 8, 8, 8, 8, 8, 8, 8, 8, 8, 8, 8, 8, 8, 8, 8, 8, 8, 8, 8, 8, 8, 8, 8, 8])) }))) <|
           one (bt { data := List.toArray (List.append (List.append [0, 1, 2, 2, 3, 3, 3, 3, 4, 4, 4, 4, 4, 4, 4, 4, 5, 5, 5, 5, 5, 5, 5, 5, 5, 5, 5, 5, 5, 5, 5, 5, 6, 6, 6, 6, 6, 6, 6, 6, 6, 6, 6, 6, 6, 6, 6, 6, 6, 6, 6, 6, 6, 6, 6, 6, 6, 6, 6, 6, 6, 6, 6, 6] [7, 7, 7, 7, 7, 7, 7, 7, 7, 7, 7, 7, 7, 7, 7, 7, 7, 7, 7, 7, 7, 7, 7, 7, 7, 7, 7, 7, 7, 7, 7, 7, 7, 7, 7, 7, 7, 7, 7, 7, 7, 7, 7, 7, 7, 7, 7, 7, 7, 7, 7, 7, 7, 7, 7, 7, 7, 7, 7, 7, 7, 7, 7, 7]) (List.append [8, 8, 8, 8, 8, 8, 8, 8, 8, 8, 8, 8, 8, 8, 8, 8, 8, 8, 8, 8, 8, 8, 8, 8, 8, 8, 8, 8, 8, 8, 8, 8, 8, 8, 8, 8, 8, 8, 8, 8, 8, 8, 8, 8, 8, 8, 8, 8, 8, 8, 8, 8, 8, 8, 8, 8, 8, 8, 8, 8, 8, 8, 8, 8] [8, 8, 8, 8, 8, 8, 8, 8, 8, 8, 8, 8, 8, 8, 8, 8, 8, 8, 8, 8, 8, 8, 8, 8, 8, 8, 8, 8, 8, 8, 8, 8, 8, 8, 8, 8, 8, 8, 8, 8, 8, 8, 8, 8, 8, 8, 8, 8, 8, 8, 8, 8, 8, 8, 8, 8, 8, 8, 8, 8, 8, 8, 8, 8])) } x91) fun x92 =>
           one (wrapI .i64 x92) fun x93 =>
           one (addI .i64 x90 x93) fun x94 =>
           some [.i (x94)])
          (one (wrapI .u8 x87) fun x95 =>
           chk (decide (0 ≤ x95 ∧ x95 < ↑(ByteArray.size { data := List.toArray (List.append (List.append [0, 1, 2, 2, 3, 3, 3, 3, 4, 4, 4, 4, 4, 4, 4, 4, 5, 5, 5, 5, 5, 5, 5, 5, 5, 5, 5, 5, 5, 5, 5, 5, 6, 6, 6, 6, 6, 6, 6, 6, 6, 6, 6, 6, 6, 6, 6, 6, 6, 6, 6, 6, 6, 6, 6, 6, 6, 6, 6, 6, 6, 6, 6, 6] [7, 7, 7, 7, 7, 7, 7, 7, 7, 7, 7, 7, 7, 7, 7, 7, 7, 7, 7, 7, 7, 7, 7, 7, 7, 7, 7, 7, 7, 7, 7, 7, 7, 7, 7, 7, 7, 7, 7, 7, 7, 7, 7, 7, 7, 7, 7, 7, 7, 7, 7, 7, 7, 7, 7, 7, 7, 7, 7, 7, 7, 7, 7, 7]) (List.append [8, 8, 8, 8, 8, 8, 8, 8, 8, 8, 8, 8, 8, 8, 8, 8, 8, 8, 8, 8, 8, 8, 8, 8, 8, 8, 8, 8, 8, 8, 8, 8, 8, 8, 8, 8, 8, 8, 8, 8, 8, 8, 8, 8, 8, 8, 8, 8, 8, 8, 8, 8, 8, 8, 8, 8, 8, 8, 8, 8, 8, 8, 8, 8] [8, 8, 8, 8, 8, 8, 8, 8, 8, 8, 8, 8, 8, 8, 8, 8, 8, 8, 8, 8, 8, 8, 8, 8, 8, 8, 8, 8, 8, 8, 8, 8, 8, 8, 8, 8, 8, 8, 8, 8, 8, 8, 8, 8, 8, 8, 8, 8, 8, 8, 8, 8, 8, 8, 8, 8, 8, 8, 8, 8, 8, 8, 8, 8])) }))) <|
           one (bt { data := List.toArray (List.append (List.append [0, 1, 2, 2, 3, 3, 3, 3, 4, 4, 4, 4, 4, 4, 4, 4, 5, 5, 5, 5, 5, 5, 5, 5, 5, 5, 5, 5, 5, 5, 5, 5, 6, 6, 6, 6, 6, 6, 6, 6, 6, 6, 6, 6, 6, 6, 6, 6, 6, 6, 6, 6, 6, 6, 6, 6, 6, 6, 6, 6, 6, 6, 6, 6] [7, 7, 7, 7, 7, 7, 7, 7, 7, 7, 7, 7, 7, 7, 7, 7, 7, 7, 7, 7, 7, 7, 7, 7, 7, 7, 7, 7, 7, 7, 7, 7, 7, 7, 7, 7, 7, 7, 7, 7, 7, 7, 7, 7, 7, 7, 7, 7, 7, 7, 7, 7, 7, 7, 7, 7, 7, 7, 7, 7, 7, 7, 7, 7]) (List.append [8, 8, 8, 8, 8, 8, 8, 8, 8, 8, 8, 8, 8, 8, 8, 8, 8, 8, 8, 8, 8, 8, 8, 8, 8, 8, 8, 8, 8, 8, 8, 8, 8, 8, 8, 8, 8, 8, 8, 8, 8, 8, 8, 8, 8, 8, 8, 8, 8, 8, 8, 8, 8, 8, 8, 8, 8, 8, 8, 8, 8, 8, 8, 8] [8, 8, 8, 8, 8, 8, 8, 8, 8, 8, 8, 8, 8, 8, 8, 8, 8, 8, 8, 8, 8, 8, 8, 8, 8, 8, 8, 8, 8, 8, 8, 8, 8, 8, 8, 8, 8, 8, 8, 8, 8, 8, 8, 8, 8, 8, 8, 8, 8, 8, 8, 8, 8, 8, 8, 8, 8, 8, 8, 8, 8, 8, 8, 8])) } x95) fun x96 =>
           one (wrapI .i64 x96) fun x97 =>
           one (addI .i64 x88 x97) fun x98 =>
           some [.i (x98)]))
       (br (decide (x ≥ 256))
          (one (shrI .u64 x 8) fun x99 =>
           one (addI .i64 0 8) fun x100 =>
           one (wrapI .u8 x99) fun x101 =>
           chk (decide (0 ≤ x101 ∧ x101 < ↑(ByteArray.size { data := List.toArray (List.append (List.append [0, 1, 2, 2, 3, 3, 3, 3, 4, 4, 4, 4, 4, 4, 4, 4, 5, 5, 5, 5, 5, 5, 5, 5, 5, 5, 5, 5, 5, 5, 5, 5, 6, 6, 6, 6, 6, 6, 6, 6, 6, 6, 6, 6, 6, 6, 6, 6, 6, 6, 6, 6, 6, 6, 6, 6, 6, 6, 6, 6, 6, 6, 6, 6] [7, 7, 7, 7, 7, 7, 7, 7, 7, 7, 7, 7, 7, 7, 7, 7, 7, 7, 7, 7, 7, 7, 7, 7, 7, 7, 7, 7, 7, 7, 7, 7, 7, 7, 7, 7, 7, 7, 7, 7, 7, 7, 7, 7, 7, 7, 7, 7, 7, 7, 7, 7, 7, 7, 7, 7, 7, 7, 7, 7, 7, 7, 7, 7]) (List.append [8, 8, 8, 8, 8, 8, 8, 8, 8, 8, 8, 8, 8, 8, 8, 8, 8, 8, 8, 8, 8, 8, 8, 8, 8, 8, 8, 8, 8, 8, 8, 8, 8, 8, 8, 8, 8, 8, 8, 8, 8, 8, 8, 8, 8, 8, 8, 8, 8, 8, 8, 8, 8, 8, 8, 8, 8, 8, 8, 8, 8, 8, 8, 8] [8, 8, 8, 8, 8, 8, 8, 8, 8, 8, 8, 8, 8, 8, 8, 8, 8, 8, 8, 8, 8, 8, 8, 8, 8, 8, 8, 8, 8, 8, 8, 8, 8, 8, 8, 8, 8, 8, 8, 8, 8, 8, 8, 8, 8, 8, 8, 8, 8, 8, 8, 8, 8, 8, 8, 8, 8, 8, 8, 8, 8, 8, 8, 8])) }))) <|
           one (bt { data := List.toArray (List.append (List.append [0, 1, 2, 2, 3, 3, 3, 3, 4, 4, 4, 4, 4, 4, 4, 4, 5, 5, 5, 5, 5, 5, 5, 5, 5, 5, 5, 5, 5, 5, 5, 5, 6, 6, 6, 6, 6, 6, 6, 6, 6, 6, 6, 6, 6, 6, 6, 6, 6, 6, 6, 6, 6, 6, 6, 6, 6, 6, 6, 6, 6, 6, 6, 6] [7, 7, 7, 7, 7, 7, 7, 7, 7, 7, 7, 7, 7, 7, 7, 7, 7, 7, 7, 7, 7, 7, 7, 7, 7, 7, 7, 7, 7, 7, 7, 7, 7, 7, 7, 7, 7, 7, 7, 7, 7, 7, 7, 7, 7, 7, 7, 7, 7, 7, 7, 7, 7, 7, 7, 7, 7, 7, 7, 7, 7, 7, 7, 7]) (List.append [8, 8, 8, 8, 8, 8, 8, 8, 8, 8, 8, 8, 8, 8, 8, 8, 8, 8, 8, 8, 8, 8, 8, 8, 8, 8, 8, 8, 8, 8, 8, 8, 8, 8, 8, 8, 8, 8, 8, 8, 8, 8, 8, 8, 8, 8, 8, 8, 8, 8, 8, 8, 8, 8, 8, 8, 8, 8, 8, 8, 8, 8, 8, 8] [8, 8, 8, 8, 8, 8, 8, 8, 8, 8, 8, 8, 8, 8, 8, 8, 8, 8, 8, 8, 8, 8, 8, 8, 8, 8, 8, 8, 8, 8, 8, 8, 8, 8, 8, 8, 8, 8, 8, 8, 8, 8, 8, 8, 8, 8, 8, 8, 8, 8, 8, 8, 8, 8, 8, 8, 8, 8, 8, 8, 8, 8, 8, 8])) } x101) fun x102 =>
           one (wrapI .i64 x102) fun x103 =>
           one (addI .i64 x100 x103) fun x104 =>
           some [.i (x104)])
          (one (wrapI .u8 x) fun x105 =>
           chk (decide (0 ≤ x105 ∧ x105 < ↑(ByteArray.size { data := List.toArray (List.append (List.append [0, 1, 2, 2, 3, 3, 3, 3, 4, 4, 4, 4, 4, 4, 4, 4, 5, 5, 5, 5, 5, 5, 5, 5, 5, 5, 5, 5, 5, 5, 5, 5, 6, 6, 6, 6, 6, 6, 6, 6, 6, 6, 6, 6, 6, 6, 6, 6, 6, 6, 6, 6, 6, 6, 6, 6, 6, 6, 6, 6, 6, 6, 6, 6] [7, 7, 7, 7, 7, 7, 7, 7, 7, 7, 7, 7, 7, 7, 7, 7, 7, 7, 7, 7, 7, 7, 7, 7, 7, 7, 7, 7, 7, 7, 7, 7, 7, 7, 7, 7, 7, 7, 7, 7, 7, 7, 7, 7, 7, 7, 7, 7, 7, 7, 7, 7, 7, 7, 7, 7, 7, 7, 7, 7, 7, 7, 7, 7]) (List.append [8, 8, 8, 8, 8, 8, 8, 8, 8, 8, 8, 8, 8, 8, 8, 8, 8, 8, 8, 8, 8, 8, 8, 8, 8, 8, 8, 8, 8, 8, 8, 8, 8, 8, 8, 8, 8, 8, 8, 8, 8, 8, 8, 8, 8, 8, 8, 8, 8, 8, 8, 8, 8, 8, 8, 8, 8, 8, 8, 8, 8, 8, 8, 8] [8, 8, 8, 8, 8, 8, 8, 8, 8, 8, 8, 8, 8, 8, 8, 8, 8, 8, 8, 8, 8, 8, 8, 8, 8, 8, 8, 8, 8, 8, 8, 8, 8, 8, 8, 8, 8, 8, 8, 8, 8, 8, 8, 8, 8, 8, 8, 8, 8, 8, 8, 8, 8, 8, 8, 8, 8, 8, 8, 8, 8, 8, 8, 8])) }))) <|
           one (bt { data := List.toArray (List.append (List.append [0, 1, 2, 2, 3, 3, 3, 3, 4, 4, 4, 4, 4, 4, 4, 4, 5, 5, 5, 5, 5, 5, 5, 5, 5, 5, 5, 5, 5, 5, 5, 5, 6, 6, 6, 6, 6, 6, 6, 6, 6, 6, 6, 6, 6, 6, 6, 6, 6, 6, 6, 6, 6, 6, 6, 6, 6, 6, 6, 6, 6, 6, 6, 6] [7, 7, 7, 7, 7, 7, 7, 7, 7, 7, 7, 7, 7, 7, 7, 7, 7, 7, 7, 7, 7, 7, 7, 7, 7, 7, 7, 7, 7, 7, 7, 7, 7, 7, 7, 7, 7, 7, 7, 7, 7, 7, 7, 7, 7, 7, 7, 7, 7, 7, 7, 7, 7, 7, 7, 7, 7, 7, 7, 7, 7, 7, 7, 7]) (List.append [8, 8, 8, 8, 8, 8, 8, 8, 8, 8, 8, 8, 8, 8, 8, 8, 8, 8, 8, 8, 8, 8, 8, 8, 8, 8, 8, 8, 8, 8, 8, 8, 8, 8, 8, 8, 8, 8, 8, 8, 8, 8, 8, 8, 8, 8, 8, 8, 8, 8, 8, 8, 8, 8, 8, 8, 8, 8, 8, 8, 8, 8, 8, 8] [8, 8, 8, 8, 8, 8, 8, 8, 8, 8, 8, 8, 8, 8, 8, 8, 8, 8, 8, 8, 8, 8, 8, 8, 8, 8, 8, 8, 8, 8, 8, 8, 8, 8, 8, 8, 8, 8, 8, 8, 8, 8, 8, 8, 8, 8, 8, 8, 8, 8, 8, 8, 8, 8, 8, 8, 8, 8, 8, 8, 8, 8, 8, 8])) } x105) fun x106 =>
           one (wrapI .i64 x106) fun x107 =>
           one (addI .i64 0 x107) fun x108 =>
           some [.i (x108)])))
def bits_LeadingZeros64 (x : Int) : Option (List Leaf) :=
  out (bits_Len64 x) fun r109 =>
  un_i r109 fun x110 r111 =>
  un_nil r111 <|
  one (subI .i64 64 x110) fun x112 =>
  some [.i (x112)]
def bits_Div64_17_B  {α : Type} (kx : Nat → List Leaf → Option α) (kr : List Leaf → Option α) (again : Int → Int → Int → Int → Int → Int → Int → Int → Int → Option α) (s : Int) (y : Int) (un0 : Int) (yn1 : Int) (yn0 : Int) (un1 : Int) (un32 : Int) (rhat : Int) (q1 : Int) : Option α :=
  br (decide (q1 ≥ 4294967296))
    (one (subI .u64 q1 1) fun x139 =>
     one (addI .u64 rhat yn1) fun x140 =>
     br (decide (x140 ≥ 4294967296))
       (kx 0 [.i (s), .i (y), .i (un0), .i (x139), .i (yn1), .i (yn0), .i (un1), .i (un32)])
       (again (s) (y) (un0) (yn1) (yn0) (un1) (un32) (x140) (x139)))
    (one (mulI .u64 q1 yn0) fun x141 =>
     one (mulI .u64 4294967296 rhat) fun x142 =>
     one (addI .u64 x142 un1) fun x143 =>
     br (decide (x141 > x143))
       (one (subI .u64 q1 1) fun x144 =>
        one (addI .u64 rhat yn1) fun x145 =>
        br (decide (x145 ≥ 4294967296))
          (kx 0 [.i (s), .i (y), .i (un0), .i (x144), .i (yn1), .i (yn0), .i (un1), .i (un32)])
          (again (s) (y) (un0) (yn1) (yn0) (un1) (un32) (x145) (x144)))
       (kx 0 [.i (s), .i (y), .i (un0), .i (q1), .i (yn1), .i (yn0), .i (un1), .i (un32)]))
def bits_Div64_17_L {α : Type} (kx : Nat → List Leaf → Option α) (kr : List Leaf → Option α) : Nat → Int → Int → Int → Int → Int → Int → Int → Int → Int → Option α
  | 0, _, _, _, _, _, _, _, _, _ => none
  | n + 1, s, y, un0, yn1, yn0, un1, un32, rhat, q1 => bits_Div64_17_B  kx kr (bits_Div64_17_L kx kr n) s y un0 yn1 yn0 un1 un32 rhat q1
def bits_Div64_17_F (L17 : ({β : Type} → (Nat → List Leaf → Option β) → (List Leaf → Option β) → Nat → Int → Int → Int → Int → Int → Int → Int → Int → Int → Option β)) {α : Type} (n : Nat) (ls : List Leaf) (kx : Nat → List Leaf → Option α) (kr : List Leaf → Option α) : Option α := un_i ls fun s rr => un_i rr fun y rr => un_i rr fun un0 rr => un_i rr fun yn1 rr => un_i rr fun yn0 rr => un_i rr fun un1 rr => un_i rr fun un32 rr => un_i rr fun rhat rr => un_i rr fun q1 rr => un_nil rr (L17 kx kr n s y un0 yn1 yn0 un1 un32 rhat q1)
def bits_Div64_24_B  {α : Type} (kx : Nat → List Leaf → Option α) (kr : List Leaf → Option α) (again : Int → Int → Int → Int → Int → Int → Int → Int → Int → Option α) (s : Int) (y : Int) (un0 : Int) (un21 : Int) (q1 : Int) (yn1 : Int) (rhat : Int) (q0 : Int) (yn0 : Int) : Option α :=
  br (decide (q0 ≥ 4294967296))
    (one (subI .u64 q0 1) fun x198 =>
     one (addI .u64 rhat yn1) fun x199 =>
     br (decide (x199 ≥ 4294967296))
       (kx 2 [.i (s), .i (y), .i (x198), .i (un0), .i (un21), .i (q1)])
       (again (s) (y) (un0) (un21) (q1) (yn1) (x199) (x198) (yn0)))
    (one (mulI .u64 q0 yn0) fun x200 =>
     one (mulI .u64 4294967296 rhat) fun x201 =>
     one (addI .u64 x201 un0) fun x202 =>
     br (decide (x200 > x202))
       (one (subI .u64 q0 1) fun x203 =>
        one (addI .u64 rhat yn1) fun x204 =>
        br (decide (x204 ≥ 4294967296))
          (kx 2 [.i (s), .i (y), .i (x203), .i (un0), .i (un21), .i (q1)])
          (again (s) (y) (un0) (un21) (q1) (yn1) (x204) (x203) (yn0)))
       (kx 2 [.i (s), .i (y), .i (q0), .i (un0), .i (un21), .i (q1)]))
def bits_Div64_24_L {α : Type} (kx : Nat → List Leaf → Option α) (kr : List Leaf → Option α) : Nat → Int → Int → Int → Int → Int → Int → Int → Int → Int → Option α
  | 0, _, _, _, _, _, _, _, _, _ => none
  | n + 1, s, y, un0, un21, q1, yn1, rhat, q0, yn0 => bits_Div64_24_B  kx kr (bits_Div64_24_L kx kr n) s y un0 un21 q1 yn1 rhat q0 yn0
def bits_Div64_24_F (L24 : ({β : Type} → (Nat → List Leaf → Option β) → (List Leaf → Option β) → Nat → Int → Int → Int → Int → Int → Int → Int → Int → Int → Option β)) {α : Type} (n : Nat) (ls : List Leaf) (kx : Nat → List Leaf → Option α) (kr : List Leaf → Option α) : Option α := un_i ls fun s rr => un_i rr fun y rr => un_i rr fun un0 rr => un_i rr fun un21 rr => un_i rr fun q1 rr => un_i rr fun yn1 rr => un_i rr fun rhat rr => un_i rr fun q0 rr => un_i rr fun yn0 rr => un_nil rr (L24 kx kr n s y un0 un21 q1 yn1 rhat q0 yn0)
def bits_Div64_d (L17 : ({β : Type} → (Nat → List Leaf → Option β) → (List Leaf → Option β) → Nat → Int → Int → Int → Int → Int → Int → Int → Int → Int → Option β)) (L24 : ({β : Type} → (Nat → List Leaf → Option β) → (List Leaf → Option β) → Nat → Int → Int → Int → Int → Int → Int → Int → Int → Int → Option β)) (hi : Int) (lo : Int) (y : Int) : Option (List Leaf) :=
  br (y == 0)
    (none)
    (br (decide (y ≤ hi))
       (none)
       (br (hi == 0)
          (chk (decide (y ≠ 0)) <|
           one (quoI .u64 lo y) fun x205 =>
           chk (decide (y ≠ 0)) <|
           one (remI .u64 lo y) fun x206 =>
           some [.i (x205), .i (x206)])
          (out (bits_LeadingZeros64 y) fun r207 =>
           un_i r207 fun x208 r209 =>
           un_nil r209 <|
           one (wrapI .u64 x208) fun x210 =>
           chk (decide (0 ≤ x210)) <|
           one (shlI .u64 y x210) fun x211 =>
           one (shrI .u64 x211 32) fun x212 =>
           one (andI .u64 x211 4294967295) fun x213 =>
           chk (decide (0 ≤ x210)) <|
           one (shlI .u64 hi x210) fun x214 =>
           one (subI .u64 64 x210) fun x215 =>
           chk (decide (0 ≤ x215)) <|
           one (shrI .u64 lo x215) fun x216 =>
           one (orI .u64 x214 x216) fun x217 =>
           chk (decide (0 ≤ x210)) <|
           one (shlI .u64 lo x210) fun x218 =>
           one (shrI .u64 x218 32) fun x219 =>
           one (andI .u64 x218 4294967295) fun x220 =>
           chk (decide (x212 ≠ 0)) <|
           one (quoI .u64 x217 x212) fun x221 =>
           one (mulI .u64 x221 x212) fun x222 =>
           one (subI .u64 x217 x222) fun x223 =>
           L17
             (fun i224 r225 =>
              br (Nat.beq 0 i224)
                (un_i r225 fun x226 r227 =>
                 un_i r227 fun x228 r229 =>
                 un_i r229 fun x230 r231 =>
                 un_i r231 fun x232 r233 =>
                 un_i r233 fun x234 r235 =>
                 un_i r235 fun x236 r237 =>
                 un_i r237 fun x238 r239 =>
                 un_i r239 fun x240 r241 =>
                 un_nil r241 <|
                 one (mulI .u64 x240 4294967296) fun x242 =>
                 one (addI .u64 x242 x238) fun x243 =>
                 one (mulI .u64 x232 x228) fun x244 =>
                 one (subI .u64 x243 x244) fun x245 =>
                 chk (decide (x234 ≠ 0)) <|
                 one (quoI .u64 x245 x234) fun x246 =>
                 one (mulI .u64 x246 x234) fun x247 =>
                 one (subI .u64 x245 x247) fun x248 =>
                 L24
                   (fun i249 r250 =>
                    br (Nat.beq 2 i249)
                      (un_i r250 fun x251 r252 =>
                       un_i r252 fun x253 r254 =>
                       un_i r254 fun x255 r256 =>
                       un_i r256 fun x257 r258 =>
                       un_i r258 fun x259 r260 =>
                       un_i r260 fun x261 r262 =>
                       un_nil r262 <|
                       one (mulI .u64 x261 4294967296) fun x263 =>
                       one (addI .u64 x263 x255) fun x264 =>
                       one (mulI .u64 x259 4294967296) fun x265 =>
                       one (addI .u64 x265 x257) fun x266 =>
                       one (mulI .u64 x255 x253) fun x267 =>
                       one (subI .u64 x266 x267) fun x268 =>
                       chk (decide (0 ≤ x251)) <|
                       one (shrI .u64 x268 x251) fun x269 =>
                       some [.i (x264), .i (x269)])
                      (none))
                   (fun r270 =>
                    un_nil r270 <|
                    none)
                   top (x226) (x228) (x230) (x245) (x232) (x234) (x248) (x246) (x236))
                (none))
             (fun r271 =>
              un_nil r271 <|
              none)
             top (x210) (x211) (x220) (x212) (x213) (x219) (x217) (x223) (x221))))
def bits_Div64 (hi : Int) (lo : Int) (y : Int) : Option (List Leaf) := bits_Div64_d @bits_Div64_17_L @bits_Div64_24_L hi lo y
def fix_Add (a : Int) (b : Int) : Option (List Leaf) :=
  chk (decide (0 ≤ a ∧ 0 ≤ b)) <|
  one (addLo a b 0) fun x272 =>
  one (addHi a b 0) fun x273 =>
  br (decide (x273 > 0))
    (some [.i (18446744073709551615)])
    (some [.i (x272)])
def fix_Mul (a : Int) (b : Int) : Option (List Leaf) :=
  out (bits_Mul64 a b) fun r274 =>
  un_i r274 fun x275 r276 =>
  un_i r276 fun x277 r278 =>
  un_nil r278 <|
  br (decide (x275 > 0))
    (some [.i (18446744073709551615)])
    (some [.i (x277)])
def fix_MulDiv (a : Int) (b : Int) (c : Int) : Option (List Leaf) :=
  out (bits_Mul64 a b) fun r279 =>
  un_i r279 fun x280 r281 =>
  un_i r281 fun x282 r283 =>
  un_nil r283 <|
  br (decide (x280 ≥ c))
    (some [.i (18446744073709551615)])
    (out (bits_Div64 x280 x282 c) fun r284 =>
     un_i r284 fun x285 r286 =>
     un_i r286 fun x287 r288 =>
     un_nil r288 <|
     some [.i (x285)])
def fix_SqrtMul_4_B  {α : Type} (kx : Nat → List Leaf → Option α) (kr : List Leaf → Option α) (again : Int → Int → Int → Int → Option α) (bit : Int) (root : Int) (low : Int) (high : Int) : Option α :=
  br (decide (bit > 0))
    (one (orI .u64 root bit) fun x307 =>
     one (orI .u64 root bit) fun x308 =>
     out (bits_Mul64 x307 x308) fun r309 =>
     un_i r309 fun x310 r311 =>
     un_i r311 fun x312 r313 =>
     un_nil r313 <|
     br (decide (x310 < high))
       (one (orI .u64 root bit) fun x314 =>
        one (shrI .u64 bit 1) fun x315 =>
        again (x315) (x314) (low) (high))
       (br (x310 == high)
          (br (decide (x312 ≤ low))
             (one (orI .u64 root bit) fun x316 =>
              one (shrI .u64 bit 1) fun x317 =>
              again (x317) (x316) (low) (high))
             (one (shrI .u64 bit 1) fun x318 =>
              again (x318) (root) (low) (high)))
          (one (shrI .u64 bit 1) fun x319 =>
           again (x319) (root) (low) (high))))
    (kx 0 [.i (root)])
def fix_SqrtMul_4_L {α : Type} (kx : Nat → List Leaf → Option α) (kr : List Leaf → Option α) : Nat → Int → Int → Int → Int → Option α
  | 0, _, _, _, _ => none
  | n + 1, bit, root, low, high => fix_SqrtMul_4_B  kx kr (fix_SqrtMul_4_L kx kr n) bit root low high
def fix_SqrtMul_4_F (L4 : ({β : Type} → (Nat → List Leaf → Option β) → (List Leaf → Option β) → Nat → Int → Int → Int → Int → Option β)) {α : Type} (n : Nat) (ls : List Leaf) (kx : Nat → List Leaf → Option α) (kr : List Leaf → Option α) : Option α := un_i ls fun bit rr => un_i rr fun root rr => un_i rr fun low rr => un_i rr fun high rr => un_nil rr (L4 kx kr n bit root low high)
def fix_SqrtMul_d (L4 : ({β : Type} → (Nat → List Leaf → Option β) → (List Leaf → Option β) → Nat → Int → Int → Int → Int → Option β)) (a : Int) (b : Int) : Option (List Leaf) :=
  out (bits_Mul64 a b) fun r320 =>
  un_i r320 fun x321 r322 =>
  un_i r322 fun x323 r324 =>
  un_nil r324 <|
  L4
    (fun i325 r326 =>
     br (Nat.beq 0 i325)
       (un_i r326 fun x327 r328 =>
        un_nil r328 <|
        some [.i (x327)])
       (none))
    (fun r329 =>
     un_nil r329 <|
     none)
    top (9223372036854775808) (0) (x323) (x321)
def fix_SqrtMul (a : Int) (b : Int) : Option (List Leaf) := fix_SqrtMul_d @fix_SqrtMul_4_L a b
def fix_Sqrt (n2 : Int) : Option (List Leaf) :=
  out (fix_SqrtMul n2 1) fun r330 =>
  un_i r330 fun x331 r332 =>
  un_nil r332 <|
  some [.i (x331)]
def ref_Seq (n2 : Int) : Option (List Leaf) :=
  one (remI .u64 n2 281474976710656) fun x333 =>
  some [.i (x333)]
def ref_Step (s : Int) (n2 : Int) : Option (List Leaf) :=
  one (remI .i64 n2 281474976710656) fun x334 =>
  br (decide (x334 < 0))
    (one (addI .i64 x334 281474976710656) fun x335 =>
     out (ref_Seq s) fun r336 =>
     un_i r336 fun x337 r338 =>
     un_nil r338 <|
     one (wrapI .u64 x335) fun x339 =>
     one (addI .u64 x337 x339) fun x340 =>
     out (ref_Seq x340) fun r341 =>
     un_i r341 fun x342 r343 =>
     un_nil r343 <|
     some [.i (x342)])
    (out (ref_Seq s) fun r344 =>
     un_i r344 fun x345 r346 =>
     un_nil r346 <|
     one (wrapI .u64 x334) fun x347 =>
     one (addI .u64 x345 x347) fun x348 =>
     out (ref_Seq x348) fun r349 =>
     un_i r349 fun x350 r351 =>
     un_nil r351 <|
     some [.i (x350)])
def ref_Add (a : Int) (b : Int) : Option (List Leaf) :=
  one (subI .u64 18446744073709551615 a) fun x352 =>
  br (decide (b > x352))
    (some [.i (18446744073709551615)])
    (one (addI .u64 a b) fun x353 =>
     some [.i (x353)])
def ref_Over (a : Int) (b : Int) (c : Int) (d : Int) : Option (List Leaf) :=
  br (decide (a > c))
    (some [.b (true)])
    (br (a == c)
       (some [.b (decide (b > d))])
       (some [.b (false)]))
def ref_Wide (a : Int) (b : Int) : Option (List Leaf) :=
  one (remI .u64 a 4294967296) fun x354 =>
  one (quoI .u64 a 4294967296) fun x355 =>
  one (remI .u64 b 4294967296) fun x356 =>
  one (quoI .u64 b 4294967296) fun x357 =>
  one (mulI .u64 x354 x356) fun x358 =>
  one (mulI .u64 x355 x356) fun x359 =>
  one (quoI .u64 x358 4294967296) fun x360 =>
  one (addI .u64 x359 x360) fun x361 =>
  one (mulI .u64 x354 x357) fun x362 =>
  one (remI .u64 x361 4294967296) fun x363 =>
  one (addI .u64 x362 x363) fun x364 =>
  one (mulI .u64 x355 x357) fun x365 =>
  one (quoI .u64 x361 4294967296) fun x366 =>
  one (addI .u64 x365 x366) fun x367 =>
  one (quoI .u64 x364 4294967296) fun x368 =>
  one (addI .u64 x367 x368) fun x369 =>
  one (remI .u64 x364 4294967296) fun x370 =>
  one (mulI .u64 x370 4294967296) fun x371 =>
  one (remI .u64 x358 4294967296) fun x372 =>
  one (addI .u64 x371 x372) fun x373 =>
  some [.i (x369), .i (x373)]
def ref_MulDiv_7_B  {α : Type} (kx : Nat → List Leaf → Option α) (kr : List Leaf → Option α) (again : Int → Int → Int → Int → Int → Option α) (i : Int) (c : Int) (q : Int) (l : Int) (rest : Int) : Option α :=
  br (decide (i ≥ 0))
    (one (mulI .u64 rest 2) fun x392 =>
     one (wrapI .u64 i) fun x393 =>
     chk (decide (0 ≤ x393)) <|
     one (shrI .u64 l x393) fun x394 =>
     one (remI .u64 x394 2) fun x395 =>
     one (addI .u64 x392 x395) fun x396 =>
     one (mulI .u64 q 2) fun x397 =>
     br (decide (rest ≥ 9223372036854775808))
       (one (subI .u64 x396 c) fun x398 =>
        one (addI .u64 x397 1) fun x399 =>
        one (subI .i64 i 1) fun x400 =>
        again (x400) (c) (x399) (l) (x398))
       (br (decide (x396 ≥ c))
          (one (subI .u64 x396 c) fun x401 =>
           one (addI .u64 x397 1) fun x402 =>
           one (subI .i64 i 1) fun x403 =>
           again (x403) (c) (x402) (l) (x401))
          (one (subI .i64 i 1) fun x404 =>
           again (x404) (c) (x397) (l) (x396))))
    (kx 0 [.i (q)])
def ref_MulDiv_7_L {α : Type} (kx : Nat → List Leaf → Option α) (kr : List Leaf → Option α) : Nat → Int → Int → Int → Int → Int → Option α
  | 0, _, _, _, _, _ => none
  | n + 1, i, c, q, l, rest => ref_MulDiv_7_B  kx kr (ref_MulDiv_7_L kx kr n) i c q l rest
def ref_MulDiv_7_F (L7 : ({β : Type} → (Nat → List Leaf → Option β) → (List Leaf → Option β) → Nat → Int → Int → Int → Int → Int → Option β)) {α : Type} (n : Nat) (ls : List Leaf) (kx : Nat → List Leaf → Option α) (kr : List Leaf → Option α) : Option α := un_i ls fun i rr => un_i rr fun c rr => un_i rr fun q rr => un_i rr fun l rr => un_i rr fun rest rr => un_nil rr (L7 kx kr n i c q l rest)
def ref_MulDiv_d (L7 : ({β : Type} → (Nat → List Leaf → Option β) → (List Leaf → Option β) → Nat → Int → Int → Int → Int → Int → Option β)) (a : Int) (b : Int) (c : Int) : Option (List Leaf) :=
  out (ref_Wide a b) fun r405 =>
  un_i r405 fun x406 r407 =>
  un_i r407 fun x408 r409 =>
  un_nil r409 <|
  br (c == 0)
    (some [.i (18446744073709551615)])
    (br (decide (x406 ≥ c))
       (some [.i (18446744073709551615)])
       (L7
          (fun i410 r411 =>
           br (Nat.beq 0 i410)
             (un_i r411 fun x412 r413 =>
              un_nil r413 <|
              some [.i (x412)])
             (none))
          (fun r414 =>
           un_nil r414 <|
           none)
          top (63) (c) (0) (x408) (x406)))
def ref_MulDiv (a : Int) (b : Int) (c : Int) : Option (List Leaf) := ref_MulDiv_d @ref_MulDiv_7_L a b c
def ref_SqrtMul_4_B  {α : Type} (kx : Nat → List Leaf → Option α) (kr : List Leaf → Option α) (again : Int → Int → Int → Int → Option α) (i : Int) (l : Int) (h : Int) (r : Int) : Option α :=
  br (decide (i ≥ 0))
    (chk (decide (0 ≤ i)) <|
     one (shlI .u64 1 i) fun x432 =>
     one (addI .u64 r x432) fun x433 =>
     out (ref_Wide x433 x433) fun r434 =>
     un_i r434 fun x435 r436 =>
     un_i r436 fun x437 r438 =>
     un_nil r438 <|
     out (ref_Over x435 x437 h l) fun r439 =>
     un_b r439 fun x440 r441 =>
     un_nil r441 <|
     br (!x440)
       (one (subI .i64 i 1) fun x442 =>
        again (x442) (l) (h) (x433))
       (one (subI .i64 i 1) fun x443 =>
        again (x443) (l) (h) (r)))
    (kx 0 [.i (r)])
def ref_SqrtMul_4_L {α : Type} (kx : Nat → List Leaf → Option α) (kr : List Leaf → Option α) : Nat → Int → Int → Int → Int → Option α
  | 0, _, _, _, _ => none
  | n + 1, i, l, h, r => ref_SqrtMul_4_B  kx kr (ref_SqrtMul_4_L kx kr n) i l h r
def ref_SqrtMul_4_F (L4 : ({β : Type} → (Nat → List Leaf → Option β) → (List Leaf → Option β) → Nat → Int → Int → Int → Int → Option β)) {α : Type} (n : Nat) (ls : List Leaf) (kx : Nat → List Leaf → Option α) (kr : List Leaf → Option α) : Option α := un_i ls fun i rr => un_i rr fun l rr => un_i rr fun h rr => un_i rr fun r rr => un_nil rr (L4 kx kr n i l h r)
def ref_SqrtMul_d (L4 : ({β : Type} → (Nat → List Leaf → Option β) → (List Leaf → Option β) → Nat → Int → Int → Int → Int → Option β)) (a : Int) (b : Int) : Option (List Leaf) :=
  out (ref_Wide a b) fun r444 =>
  un_i r444 fun x445 r446 =>
  un_i r446 fun x447 r448 =>
  un_nil r448 <|
  L4
    (fun i449 r450 =>
     br (Nat.beq 0 i449)
       (un_i r450 fun x451 r452 =>
        un_nil r452 <|
        some [.i (x451)])
       (none))
    (fun r453 =>
     un_nil r453 <|
     none)
    top (63) (x447) (x445) (0)
def ref_SqrtMul (a : Int) (b : Int) : Option (List Leaf) := ref_SqrtMul_d @ref_SqrtMul_4_L a b
def ref_Sqrt (n2 : Int) : Option (List Leaf) :=
  out (ref_SqrtMul n2 1) fun r454 =>
  un_i r454 fun x455 r456 =>
  un_nil r456 <|
  some [.i (x455)]
def eqn_F (n2 : Int) : Option (List Leaf) :=
  one (maxI n2 1) fun x457 =>
  one (minI x457 4294967296) fun x458 =>
  out (fix_MulDiv 8589934592 x458 3) fun r459 =>
  un_i r459 fun x460 r461 =>
  un_nil r461 <|
  out (fix_Sqrt x460) fun r462 =>
  un_i r462 fun x463 r464 =>
  un_nil r464 <|
  out (fix_MulDiv 12884901888 x458 8) fun r465 =>
  un_i r465 fun x466 r467 =>
  un_nil r467 <|
  out (fix_Sqrt x466) fun r468 =>
  un_i r468 fun x469 r470 =>
  un_nil r470 <|
  one (mulI .u64 32 x458) fun x471 =>
  out (fix_MulDiv x471 x458 4294967296) fun r472 =>
  un_i r472 fun x473 r474 =>
  un_nil r474 <|
  one (addI .u64 4294967296 x473) fun x475 =>
  out (fix_MulDiv x469 x458 4294967296) fun r476 =>
  un_i r476 fun x477 r478 =>
  un_nil r478 <|
  out (fix_MulDiv x477 x475 4294967296) fun r479 =>
  un_i r479 fun x480 r481 =>
  un_nil r481 <|
  one (mulI .u64 12 x480) fun x482 =>
  one (addI .u64 x463 x482) fun x483 =>
  some [.i (x483)]
def eqn_Rate (s : Int) (r : Int) (n2 : Int) : Option (List Leaf) :=
  one (maxI s 1) fun x484 =>
  one (minI x484 65535) fun x485 =>
  one (maxI r 1) fun x486 =>
  one (minI x486 4294967296) fun x487 =>
  one (mulI .u64 64000000 x485) fun x488 =>
  out (eqn_F n2) fun r489 =>
  un_i r489 fun x490 r491 =>
  un_nil r491 <|
  out (fix_MulDiv x488 4294967296 x490) fun r492 =>
  un_i r492 fun x493 r494 =>
  un_nil r494 <|
  chk (decide (x487 ≠ 0)) <|
  one (quoI .u64 x493 x487) fun x495 =>
  some [.i (x495)]
def ref_F (n2 : Int) : Option (List Leaf) :=
  one (minI n2 4294967296) fun x496 =>
  one (maxI 1 x496) fun x497 =>
  out (ref_MulDiv 8589934592 x497 3) fun r498 =>
  un_i r498 fun x499 r500 =>
  un_nil r500 <|
  out (ref_Sqrt x499) fun r501 =>
  un_i r501 fun x502 r503 =>
  un_nil r503 <|
  out (ref_MulDiv 12884901888 x497 8) fun r504 =>
  un_i r504 fun x505 r506 =>
  un_nil r506 <|
  out (ref_Sqrt x505) fun r507 =>
  un_i r507 fun x508 r509 =>
  un_nil r509 <|
  one (mulI .u64 32 x497) fun x510 =>
  out (ref_MulDiv x510 x497 4294967296) fun r511 =>
  un_i r511 fun x512 r513 =>
  un_nil r513 <|
  one (addI .u64 4294967296 x512) fun x514 =>
  out (ref_MulDiv x508 x497 4294967296) fun r515 =>
  un_i r515 fun x516 r517 =>
  un_nil r517 <|
  out (ref_MulDiv x516 x514 4294967296) fun r518 =>
  un_i r518 fun x519 r520 =>
  un_nil r520 <|
  one (mulI .u64 12 x519) fun x521 =>
  one (addI .u64 x502 x521) fun x522 =>
  some [.i (x522)]
def ref_Rate (s : Int) (r : Int) (n2 : Int) : Option (List Leaf) :=
  one (minI s 65535) fun x523 =>
  one (maxI 1 x523) fun x524 =>
  one (minI r 4294967296) fun x525 =>
  one (maxI 1 x525) fun x526 =>
  one (mulI .u64 64000000 x524) fun x527 =>
  out (ref_F n2) fun r528 =>
  un_i r528 fun x529 r530 =>
  un_nil r530 <|
  out (ref_MulDiv x527 4294967296 x529) fun r531 =>
  un_i r531 fun x532 r533 =>
  un_nil r533 <|
  chk (decide (x526 ≠ 0)) <|
  one (quoI .u64 x532 x526) fun x534 =>
  some [.i (x534)]
end Go.Sx.T

