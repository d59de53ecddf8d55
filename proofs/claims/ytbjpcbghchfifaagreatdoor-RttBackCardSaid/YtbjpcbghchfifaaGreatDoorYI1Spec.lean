import Derived.Test.YtbjpcbghchfifaaGreatDoorYIvalSpec
set_option linter.all false
namespace Go.Sx.T
open Go Go.Sx
def IvalOne (open2 : Int) (n2 : Int) : Option (List Leaf) :=
  one (remI .u64 open2 1125899906842624) fun x871 =>
  one (remI .u64 n2 1125899906842624) fun x872 =>
  one (maxI x871 x872) fun x873 =>
  chk (decide (↑1 = Int.ofNat (List.length [x872])) && true) <|
  out (ival_Rate [x872] x871) fun r874 =>
  un_i r874 fun x875 r876 =>
  un_nil r876 <|
  br (x873 == 0)
    (br (x875 == 4294967296)
       (chk (decide (↑1 = Int.ofNat (List.length [x872])) && true) <|
        out (ival_Mean [x872] x871) fun r877 =>
        un_i r877 fun x878 r879 =>
        un_nil r879 <|
        some [.b (x878 == 0)])
       (some [.b (false)]))
    (chk (decide (↑1 = Int.ofNat (List.length [x872])) && true) <|
     out (ival_Mean [x872] x871) fun r880 =>
     un_i r880 fun x881 r882 =>
     un_nil r882 <|
     br (x881 == x873)
       (chk (decide (x873 ≠ 0)) <|
        one (quoI .u64 4294967296 x873) fun x883 =>
        one (minI 4294967296 x883) fun x884 =>
        some [.b (x875 == x884)])
       (some [.b (false)]))
end Go.Sx.T

