import Derived.Test.YtngjglbakgdgaaaGreatDoorYLowSpec
set_option linter.all false
namespace Go.Sx.T
open Go Go.Sx
def rtt_New  : Option (List Leaf) :=
  some [.b (false), .i (0), .i (0), .i (3000000)]
def rtt_Sample (r_any : Bool) (r_smooth : Int) (r_spread : Int) (r_rto : Int) (d : Int) : Option (List Leaf) :=
  one (maxI d 0) fun x499 =>
  one (minI x499 64000000) fun x500 =>
  br (!r_any)
    (one (quoI .i64 x500 2) fun x501 =>
     one (mulI .i64 4 x501) fun x502 =>
     one (maxI x502 1000) fun x503 =>
     one (addI .i64 x500 x503) fun x504 =>
     one (maxI x504 200000) fun x505 =>
     one (minI x505 64000000) fun x506 =>
     some [.b (true), .i (x500), .i (x501), .i (x506)])
    (one (mulI .i64 3 r_spread) fun x507 =>
     one (subI .i64 r_smooth x500) fun x508 =>
     one (subI .i64 x500 r_smooth) fun x509 =>
     one (maxI x508 x509) fun x510 =>
     one (addI .i64 x507 x510) fun x511 =>
     one (quoI .i64 x511 4) fun x512 =>
     one (mulI .i64 7 r_smooth) fun x513 =>
     one (addI .i64 x513 x500) fun x514 =>
     one (quoI .i64 x514 8) fun x515 =>
     one (mulI .i64 4 x512) fun x516 =>
     one (maxI x516 1000) fun x517 =>
     one (addI .i64 x515 x517) fun x518 =>
     one (maxI x518 200000) fun x519 =>
     one (minI x519 64000000) fun x520 =>
     some [.b (r_any), .i (x515), .i (x512), .i (x520)])
def rtt_Rto (r_any : Bool) (r_smooth : Int) (r_spread : Int) (r_rto : Int) : Option (List Leaf) :=
  some [.i (r_rto)]
end Go.Sx.T

