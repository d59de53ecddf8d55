import Derived.Test.YtllgbgponmkijaaGreatDoorYLowSpec
set_option linter.all false
namespace Go.Sx.T
open Go Go.Sx
def bits_Mul64 (x : Int) (y : Int) : Option (List Leaf) :=
  one (andI .u64 x 4294967295) fun x23 =>
  one (shrI .u64 x 32) fun x24 =>
  one (andI .u64 y 4294967295) fun x25 =>
  one (shrI .u64 y 32) fun x26 =>
  one (mulI .u64 x23 x25) fun x27 =>
  one (mulI .u64 x24 x25) fun x28 =>
  one (shrI .u64 x27 32) fun x29 =>
  one (addI .u64 x28 x29) fun x30 =>
  one (andI .u64 x30 4294967295) fun x31 =>
  one (shrI .u64 x30 32) fun x32 =>
  one (mulI .u64 x23 x26) fun x33 =>
  one (addI .u64 x31 x33) fun x34 =>
  one (mulI .u64 x24 x26) fun x35 =>
  one (addI .u64 x35 x32) fun x36 =>
  one (shrI .u64 x34 32) fun x37 =>
  one (addI .u64 x36 x37) fun x38 =>
  one (mulI .u64 x y) fun x39 =>
  some [.i (x38), .i (x39)]
def fix_Add (a : Int) (b : Int) : Option (List Leaf) :=
  chk (decide (0 ≤ a ∧ 0 ≤ b)) <|
  one (addLo a b 0) fun x40 =>
  one (addHi a b 0) fun x41 =>
  br (decide (x41 > 0))
    (some [.i (18446744073709551615)])
    (some [.i (x40)])
def fix_Sub (a : Int) (b : Int) : Option (List Leaf) :=
  one (minI a b) fun x42 =>
  one (subI .u64 a x42) fun x43 =>
  some [.i (x43)]
def fix_Mul (a : Int) (b : Int) : Option (List Leaf) :=
  out (bits_Mul64 a b) fun r44 =>
  un_i r44 fun x45 r46 =>
  un_i r46 fun x47 r48 =>
  un_nil r48 <|
  br (decide (x45 > 0))
    (some [.i (18446744073709551615)])
    (some [.i (x47)])
def ref_Seq (n2 : Int) : Option (List Leaf) :=
  one (remI .u64 n2 281474976710656) fun x49 =>
  some [.i (x49)]
def ref_Step (s : Int) (n2 : Int) : Option (List Leaf) :=
  one (remI .i64 n2 281474976710656) fun x50 =>
  br (decide (x50 < 0))
    (one (addI .i64 x50 281474976710656) fun x51 =>
     out (ref_Seq s) fun r52 =>
     un_i r52 fun x53 r54 =>
     un_nil r54 <|
     one (wrapI .u64 x51) fun x55 =>
     one (addI .u64 x53 x55) fun x56 =>
     out (ref_Seq x56) fun r57 =>
     un_i r57 fun x58 r59 =>
     un_nil r59 <|
     some [.i (x58)])
    (out (ref_Seq s) fun r60 =>
     un_i r60 fun x61 r62 =>
     un_nil r62 <|
     one (wrapI .u64 x50) fun x63 =>
     one (addI .u64 x61 x63) fun x64 =>
     out (ref_Seq x64) fun r65 =>
     un_i r65 fun x66 r67 =>
     un_nil r67 <|
     some [.i (x66)])
def ref_Add (a : Int) (b : Int) : Option (List Leaf) :=
  one (subI .u64 18446744073709551615 a) fun x68 =>
  br (decide (b > x68))
    (some [.i (18446744073709551615)])
    (one (addI .u64 a b) fun x69 =>
     some [.i (x69)])
def ref_Sub (a : Int) (b : Int) : Option (List Leaf) :=
  br (decide (b > a))
    (some [.i (0)])
    (one (subI .u64 a b) fun x70 =>
     some [.i (x70)])
def ref_Wide (a : Int) (b : Int) : Option (List Leaf) :=
  one (remI .u64 a 4294967296) fun x71 =>
  one (quoI .u64 a 4294967296) fun x72 =>
  one (remI .u64 b 4294967296) fun x73 =>
  one (quoI .u64 b 4294967296) fun x74 =>
  one (mulI .u64 x71 x73) fun x75 =>
  one (mulI .u64 x72 x73) fun x76 =>
  one (quoI .u64 x75 4294967296) fun x77 =>
  one (addI .u64 x76 x77) fun x78 =>
  one (mulI .u64 x71 x74) fun x79 =>
  one (remI .u64 x78 4294967296) fun x80 =>
  one (addI .u64 x79 x80) fun x81 =>
  one (mulI .u64 x72 x74) fun x82 =>
  one (quoI .u64 x78 4294967296) fun x83 =>
  one (addI .u64 x82 x83) fun x84 =>
  one (quoI .u64 x81 4294967296) fun x85 =>
  one (addI .u64 x84 x85) fun x86 =>
  one (remI .u64 x81 4294967296) fun x87 =>
  one (mulI .u64 x87 4294967296) fun x88 =>
  one (remI .u64 x75 4294967296) fun x89 =>
  one (addI .u64 x88 x89) fun x90 =>
  some [.i (x86), .i (x90)]
def ref_Mul (a : Int) (b : Int) : Option (List Leaf) :=
  out (ref_Wide a b) fun r91 =>
  un_i r91 fun x92 r93 =>
  un_i r93 fun x94 r95 =>
  un_nil r95 <|
  br (decide (x92 > 0))
    (some [.i (18446744073709551615)])
    (some [.i (x94)])
end Go.Sx.T

