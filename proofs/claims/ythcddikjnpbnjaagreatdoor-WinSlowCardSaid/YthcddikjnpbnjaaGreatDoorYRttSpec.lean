import Derived.Test.YthcddikjnpbnjaaGreatDoorYLowSpec
set_option linter.all false
namespace Go.Sx.T
open Go Go.Sx
def rtt_New  : Option (List Leaf) :=
  some [.b (false), .i (0), .i (0), .i (3000000)]
def rtt_Sample (r_any : Bool) (r_smooth : Int) (r_spread : Int) (r_rto : Int) (d : Int) : Option (List Leaf) :=
  one (maxI d 0) fun x433 =>
  one (minI x433 64000000) fun x434 =>
  br (!r_any)
    (one (quoI .i64 x434 2) fun x435 =>
     one (mulI .i64 4 x435) fun x436 =>
     one (maxI x436 1000) fun x437 =>
     one (addI .i64 x434 x437) fun x438 =>
     one (maxI x438 200000) fun x439 =>
     one (minI x439 64000000) fun x440 =>
     some [.b (true), .i (x434), .i (x435), .i (x440)])
    (one (mulI .i64 3 r_spread) fun x441 =>
     one (subI .i64 r_smooth x434) fun x442 =>
     one (subI .i64 x434 r_smooth) fun x443 =>
     one (maxI x442 x443) fun x444 =>
     one (addI .i64 x441 x444) fun x445 =>
     one (quoI .i64 x445 4) fun x446 =>
     one (mulI .i64 7 r_smooth) fun x447 =>
     one (addI .i64 x447 x434) fun x448 =>
     one (quoI .i64 x448 8) fun x449 =>
     one (mulI .i64 4 x446) fun x450 =>
     one (maxI x450 1000) fun x451 =>
     one (addI .i64 x449 x451) fun x452 =>
     one (maxI x452 200000) fun x453 =>
     one (minI x453 64000000) fun x454 =>
     some [.b (r_any), .i (x449), .i (x446), .i (x454)])
def rtt_Rto (r_any : Bool) (r_smooth : Int) (r_spread : Int) (r_rto : Int) : Option (List Leaf) :=
  some [.i (r_rto)]
end Go.Sx.T

