import Derived.Test.YtngjglbakgdgaaaGreatDoorYLowSpec
set_option linter.all false
namespace Go.Sx.T
open Go Go.Sx
def rtt_New  : Option (List Leaf) :=
  some [.b (false), .i (0), .i (0), .i (3000000)]
def rtt_Rto (r_any : Bool) (r_smooth : Int) (r_spread : Int) (r_rto : Int) : Option (List Leaf) :=
  some [.i (r_rto)]
end Go.Sx.T

