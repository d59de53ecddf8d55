import Derived.Test.YtopcljhdejindaaGreatDoorYLowSpec
set_option linter.all false
namespace Go.Sx.T
open Go Go.Sx
def ref_Seq (n2 : Int) : Option (List Leaf) :=
  one (remI .u64 n2 281474976710656) fun x23 =>
  some [.i (x23)]
def rtt_New  : Option (List Leaf) :=
  some [.b (false), .i (0), .i (0), .i (3000000)]
def rtt_Sample (r_any : Bool) (r_smooth : Int) (r_spread : Int) (r_rto : Int) (d : Int) : Option (List Leaf) :=
  one (maxI d 0) fun x24 =>
  one (minI x24 64000000) fun x25 =>
  br (!r_any)
    (one (quoI .i64 x25 2) fun x26 =>
     one (mulI .i64 4 x26) fun x27 =>
     one (maxI x27 1000) fun x28 =>
     one (addI .i64 x25 x28) fun x29 =>
     one (maxI x29 200000) fun x30 =>
     one (minI x30 64000000) fun x31 =>
     some [.b (true), .i (x25), .i (x26), .i (x31)])
    (one (mulI .i64 3 r_spread) fun x32 =>
     one (subI .i64 r_smooth x25) fun x33 =>
     one (subI .i64 x25 r_smooth) fun x34 =>
     one (maxI x33 x34) fun x35 =>
     one (addI .i64 x32 x35) fun x36 =>
     one (quoI .i64 x36 4) fun x37 =>
     one (mulI .i64 7 r_smooth) fun x38 =>
     one (addI .i64 x38 x25) fun x39 =>
     one (quoI .i64 x39 8) fun x40 =>
     one (mulI .i64 4 x37) fun x41 =>
     one (maxI x41 1000) fun x42 =>
     one (addI .i64 x40 x42) fun x43 =>
     one (maxI x43 200000) fun x44 =>
     one (minI x44 64000000) fun x45 =>
     some [.b (r_any), .i (x40), .i (x37), .i (x45)])
def rtt_Smooth (r_any : Bool) (r_smooth : Int) (r_spread : Int) (r_rto : Int) : Option (List Leaf) :=
  br (!r_any)
    (some [.i (0), .b (false)])
    (some [.i (r_smooth), .b (true)])
def rtt_Rto (r_any : Bool) (r_smooth : Int) (r_spread : Int) (r_rto : Int) : Option (List Leaf) :=
  some [.i (r_rto)]
def rtt_Back (r_any : Bool) (r_smooth : Int) (r_spread : Int) (r_rto : Int) : Option (List Leaf) :=
  one (mulI .i64 2 r_rto) fun x46 =>
  one (minI x46 64000000) fun x47 =>
  some [.b (r_any), .i (r_smooth), .i (r_spread), .i (x47)]
end Go.Sx.T

