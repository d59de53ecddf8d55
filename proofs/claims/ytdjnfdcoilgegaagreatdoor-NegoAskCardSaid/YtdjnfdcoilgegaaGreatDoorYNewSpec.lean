import Derived.Test.YtdjnfdcoilgegaaGreatDoorYLowSpec
set_option linter.all false
namespace Go.Sx.T
open Go Go.Sx
def nego_New (server : Bool) : Option (List Leaf) := some [.li [], .ls [], .li [1, 6, 8], .ls [strOfI [2, 3], strOfI [0, 1], strOfI [0, 1, 2, 3, 4, 5, 6, 7, 8, 9, 10, 11, 12, 13, 14, 15]], .li [1, 3, 6, 8], .ls [strOfI [2], strOfI [0, 0, 0, 0, 0, 100], strOfI [0], strOfI [0]], .li [1, 3, 6, 8], .ls [strOfI [2], strOfI [0, 0, 0, 0, 0, 100], strOfI [0], strOfI [0]], .li [], .ls [], .b server]
end Go.Sx.T

