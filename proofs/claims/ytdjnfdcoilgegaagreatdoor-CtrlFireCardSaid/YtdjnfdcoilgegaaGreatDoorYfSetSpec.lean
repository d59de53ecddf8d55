import Derived.Test.YtdjnfdcoilgegaaGreatDoorYLowSpec
set_option linter.all false
namespace Go.Sx.T
open Go Go.Sx
def rset_New  : Option (List Leaf) :=
  chk (decide ((↑(1 : Nat) : Int) = Int.ofNat (List.length [(0 : Int)])) && true && true) <|
  some [.li ([0]), .li ([18446744073709551615])]
def rset_Only (s_l0 : List Int) (s_l1 : List Int) (x : Int) (now : Int) : Option (List Leaf) :=
  one (maxI now 0) fun x436 =>
  one (minI x436 4611686018427387904) fun x437 =>
  chk (decide ((↑(1 : Nat) : Int) = Int.ofNat (List.length [x437])) && true && true) <|
  some [.li ([x437]), .li ([x])]
end Go.Sx.T

