import Derived.Test.YtbjpcbghchfifaaGreatDoorYLowSpec
set_option linter.all false
namespace Go.Sx.T
open Go Go.Sx
def rtt_New  : Option (List Leaf) :=
  some [.b (false), .i (0), .i (0), .i (3000000)]
def rtt_Sample (r_any : Bool) (r_smooth : Int) (r_spread : Int) (r_rto : Int) (d : Int) : Option (List Leaf) :=
  one (maxI d 0) fun x23 =>
  one (minI x23 64000000) fun x24 =>
  br (!r_any)
    (one (quoI .i64 x24 2) fun x25 =>
     one (mulI .i64 4 x25) fun x26 =>
     one (maxI x26 1000) fun x27 =>
     one (addI .i64 x24 x27) fun x28 =>
     one (maxI x28 200000) fun x29 =>
     one (minI x29 64000000) fun x30 =>
     some [.b (true), .i (x24), .i (x25), .i (x30)])
    (one (mulI .i64 3 r_spread) fun x31 =>
     one (subI .i64 r_smooth x24) fun x32 =>
     one (subI .i64 x24 r_smooth) fun x33 =>
     one (maxI x32 x33) fun x34 =>
     one (addI .i64 x31 x34) fun x35 =>
     one (quoI .i64 x35 4) fun x36 =>
     one (mulI .i64 7 r_smooth) fun x37 =>
     one (addI .i64 x37 x24) fun x38 =>
     one (quoI .i64 x38 8) fun x39 =>
     one (mulI .i64 4 x36) fun x40 =>
     one (maxI x40 1000) fun x41 =>
     one (addI .i64 x39 x41) fun x42 =>
     one (maxI x42 200000) fun x43 =>
     one (minI x43 64000000) fun x44 =>
     some [.b (r_any), .i (x39), .i (x36), .i (x44)])
def rtt_Smooth (r_any : Bool) (r_smooth : Int) (r_spread : Int) (r_rto : Int) : Option (List Leaf) :=
  br (!r_any)
    (some [.i (0), .b (false)])
    (some [.i (r_smooth), .b (true)])
def rtt_Rto (r_any : Bool) (r_smooth : Int) (r_spread : Int) (r_rto : Int) : Option (List Leaf) :=
  some [.i (r_rto)]
def rtt_Back (r_any : Bool) (r_smooth : Int) (r_spread : Int) (r_rto : Int) : Option (List Leaf) :=
  one (mulI .i64 2 r_rto) fun x45 =>
  one (minI x45 64000000) fun x46 =>
  some [.b (r_any), .i (r_smooth), .i (r_spread), .i (x46)]
end Go.Sx.T

