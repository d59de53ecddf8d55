import Derived.Test.YtopcljhdejindaaGreatDoorYLowSpec
set_option linter.all false
namespace Go.Sx.T
open Go Go.Sx
def rtt_New  : Option (List Leaf) :=
  some [.b (false), .i (0), .i (0), .i (3000000)]
def rtt_Sample (r_any : Bool) (r_smooth : Int) (r_spread : Int) (r_rto : Int) (d : Int) : Option (List Leaf) :=
  one (maxI d 0) fun x617 =>
  one (minI x617 64000000) fun x618 =>
  br (!r_any)
    (one (quoI .i64 x618 2) fun x619 =>
     one (mulI .i64 4 x619) fun x620 =>
     one (maxI x620 1000) fun x621 =>
     one (addI .i64 x618 x621) fun x622 =>
     one (maxI x622 200000) fun x623 =>
     one (minI x623 64000000) fun x624 =>
     some [.b (true), .i (x618), .i (x619), .i (x624)])
    (one (mulI .i64 3 r_spread) fun x625 =>
     one (subI .i64 r_smooth x618) fun x626 =>
     one (subI .i64 x618 r_smooth) fun x627 =>
     one (maxI x626 x627) fun x628 =>
     one (addI .i64 x625 x628) fun x629 =>
     one (quoI .i64 x629 4) fun x630 =>
     one (mulI .i64 7 r_smooth) fun x631 =>
     one (addI .i64 x631 x618) fun x632 =>
     one (quoI .i64 x632 8) fun x633 =>
     one (mulI .i64 4 x630) fun x634 =>
     one (maxI x634 1000) fun x635 =>
     one (addI .i64 x633 x635) fun x636 =>
     one (maxI x636 200000) fun x637 =>
     one (minI x637 64000000) fun x638 =>
     some [.b (r_any), .i (x633), .i (x630), .i (x638)])
def rtt_Smooth (r_any : Bool) (r_smooth : Int) (r_spread : Int) (r_rto : Int) : Option (List Leaf) :=
  br (!r_any)
    (some [.i (0), .b (false)])
    (some [.i (r_smooth), .b (true)])
def rtt_Rto (r_any : Bool) (r_smooth : Int) (r_spread : Int) (r_rto : Int) : Option (List Leaf) :=
  some [.i (r_rto)]
def rtt_Back (r_any : Bool) (r_smooth : Int) (r_spread : Int) (r_rto : Int) : Option (List Leaf) :=
  one (mulI .i64 2 r_rto) fun x639 =>
  one (minI x639 64000000) fun x640 =>
  some [.b (r_any), .i (r_smooth), .i (r_spread), .i (x640)]
end Go.Sx.T

