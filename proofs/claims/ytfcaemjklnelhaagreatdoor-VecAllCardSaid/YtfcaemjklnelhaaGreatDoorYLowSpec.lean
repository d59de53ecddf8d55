import Derived.Test.YtfcaemjklnelhaaGreatDoorL6
set_option linter.all false
namespace Go.Sx.T
open Go Go.Sx
def seq_Of (n2 : Int) : Option (List Leaf) :=
  one (andI .u64 n2 281474976710655) fun x1 =>
  some [.i (x1)]
def seq_Diff (a : Int) (b : Int) : Option (List Leaf) :=
  one (subI .u64 a b) fun x2 =>
  out (seq_Of x2) fun r3 =>
  un_i r3 fun x4 r5 =>
  un_nil r5 <|
  br (decide (x4 ≥ 140737488355328))
    (one (wrapI .i64 x4) fun x6 =>
     one (subI .i64 x6 281474976710656) fun x7 =>
     some [.i (x7)])
    (one (wrapI .i64 x4) fun x8 =>
     some [.i (x8)])
def seq_Less (a : Int) (b : Int) : Option (List Leaf) :=
  out (seq_Diff a b) fun r9 =>
  un_i r9 fun x10 r11 =>
  un_nil r11 <|
  some [.b (decide (x10 < 0))]
def seq_Add (s : Int) (n2 : Int) : Option (List Leaf) :=
  one (wrapI .u64 n2) fun x12 =>
  one (addI .u64 s x12) fun x13 =>
  out (seq_Of x13) fun r14 =>
  un_i r14 fun x15 r16 =>
  un_nil r16 <|
  some [.i (x15)]
def got_Put_1 (s : Int) (n2 : Int) : Option (List Leaf) :=
  out (seq_Diff s n2) fun r17 =>
  un_i r17 fun x18 r19 =>
  un_nil r19 <|
  br (decide (x18 < 0))
    (some [.b (true)])
    (out (seq_Diff s n2) fun r20 =>
     un_i r20 fun x21 r22 =>
     un_nil r22 <|
     some [.b (decide (x21 ≥ 250))])
end Go.Sx.T

