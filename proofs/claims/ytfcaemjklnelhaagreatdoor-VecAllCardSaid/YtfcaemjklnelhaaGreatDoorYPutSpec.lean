import Derived.Test.YtfcaemjklnelhaaGreatDoorYVecSpec
set_option linter.all false
namespace Go.Sx.T
open Go Go.Sx
def putB (s r : Int) : Int := wrapI .u8 (subI .i64 (addI .i64 (mulI .i64 s 64) r) 1)
def putT (cs0 cs1 : List Int) (x : Nat) : ByteArray := strOfI ((List.range (min 253 (cs0.length - 253 * x))).map fun j => putB (cs0.getD (253 * x + j) 0) (cs1.getD (253 * x + j) 0))
def vec_Put (cs0 cs1 : List Int) : Option (List Leaf) :=
  match vec_May cs0 cs1 with
  | some [.b true] => bif Nat.ble cs0.length 1000000000 then some [.ls ((List.range ((cs0.length + 252) / 253)).map (putT cs0 cs1))] else none
  | some [.b false] => some [.ls []]
  | _ => none
end Go.Sx.T

