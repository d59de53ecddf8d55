import Derived.Test.YtngjglbakgdgaaaGreatDoorYwSetSpec
import Derived.Test.YtngjglbakgdgaaaGreatDoorYFixSpec
set_option linter.all false
namespace Go.Sx.T
open Go Go.Sx
def tfrc_New (s : Int) : Option (List Leaf) :=
  br (decide (s < 1))
    (none)
    (br (decide (s > 1400))
       (none)
       (one (wrapI .u64 s) fun x499 =>
        one (wrapI .u64 s) fun x500 =>
        one (mulI .u64 64 x500) fun x501 =>
        out (rset_New) fun r502 =>
        un_li r502 fun x503 r504 =>
        un_li r504 fun x505 r506 =>
        un_nil r506 <|
        chk (decide (Int.ofNat (List.length x503) = Int.ofNat (List.length x503)) && true && true) <|
        some [.li (x503), .li (x505), .i (x499), .i (x501), .i (0), .i (0), .b (false), .i (0), .b (false), .b (false), .i (0)]))
def tfrc_Rate (t_set_l0 : List Int) (t_set_l1 : List Int) (t_s : Int) (t_x : Int) (t_loss : Int) (t_rtt : Int) (t_heard : Bool) (t_doubled : Int) (t_began : Bool) (t_started : Bool) (t_due : Int) : Option (List Leaf) :=
  some [.i (t_x)]
def tfrc_Start (t_set_l0 : List Int) (t_set_l1 : List Int) (t_s : Int) (t_x : Int) (t_loss : Int) (t_rtt : Int) (t_heard : Bool) (t_doubled : Int) (t_began : Bool) (t_started : Bool) (t_due : Int) (now : Int) : Option (List Leaf) :=
  br (!t_began)
    (one (minI now 4611686018427387904) fun x507 =>
     one (addI .i64 x507 2000000) fun x508 =>
     chk (decide (Int.ofNat (List.length t_set_l0) = Int.ofNat (List.length t_set_l0)) && true && true) <|
     some [.li (t_set_l0), .li (t_set_l1), .i (t_s), .i (t_x), .i (t_loss), .i (t_rtt), .b (t_heard), .i (t_doubled), .b (true), .b (true), .i (x508)])
    (chk (decide (Int.ofNat (List.length t_set_l0) = Int.ofNat (List.length t_set_l0)) && true && true) <|
     some [.li (t_set_l0), .li (t_set_l1), .i (t_s), .i (t_x), .i (t_loss), .i (t_rtt), .b (t_heard), .i (t_doubled), .b (t_began), .b (t_started), .i (t_due)])
end Go.Sx.T

