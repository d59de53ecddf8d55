import Derived.Test.YtdjnfdcoilgegaaGreatDoorYfSetSpec
import Derived.Test.YtdjnfdcoilgegaaGreatDoorYFixSpec
set_option linter.all false
namespace Go.Sx.T
open Go Go.Sx
def tfrc_New (s : Int) : Option (List Leaf) :=
  br (decide (s < 1))
    (none)
    (br (decide (s > 1400))
       (none)
       (one (wrapI .u64 s) fun x438 =>
        one (wrapI .u64 s) fun x439 =>
        one (mulI .u64 64 x439) fun x440 =>
        out (rset_New) fun r441 =>
        un_li r441 fun x442 r443 =>
        un_li r443 fun x444 r445 =>
        un_nil r445 <|
        chk (decide (Int.ofNat (List.length x442) = Int.ofNat (List.length x442)) && true && true) <|
        some [.li (x442), .li (x444), .i (x438), .i (x440), .i (0), .i (0), .b (false), .i (0), .b (false), .b (false), .i (0)]))
def tfrc_waits (t_set_l0 : List Int) (t_set_l1 : List Int) (t_s : Int) (t_x : Int) (t_loss : Int) (t_rtt : Int) (t_heard : Bool) (t_doubled : Int) (t_began : Bool) (t_started : Bool) (t_due : Int) (now : Int) : Option (List Leaf) :=
  one (minI now 4611686018427387904) fun x446 =>
  one (mulI .i64 4 t_rtt) fun x447 =>
  one (mulI .u64 128 t_s) fun x448 =>
  out (fix_MulDiv x448 1000000 t_x) fun r449 =>
  un_i r449 fun x450 r451 =>
  un_nil r451 <|
  one (wrapI .i64 x450) fun x452 =>
  one (maxI x447 x452) fun x453 =>
  one (addI .i64 x446 x453) fun x454 =>
  chk (decide (Int.ofNat (List.length t_set_l0) = Int.ofNat (List.length t_set_l0)) && true && true) <|
  some [.li (t_set_l0), .li (t_set_l1), .i (t_s), .i (t_x), .i (t_loss), .i (t_rtt), .b (t_heard), .i (t_doubled), .b (t_began), .b (true), .i (x454)]
def tfrc_Rate (t_set_l0 : List Int) (t_set_l1 : List Int) (t_s : Int) (t_x : Int) (t_loss : Int) (t_rtt : Int) (t_heard : Bool) (t_doubled : Int) (t_began : Bool) (t_started : Bool) (t_due : Int) : Option (List Leaf) :=
  some [.i (t_x)]
def tfrc_Start (t_set_l0 : List Int) (t_set_l1 : List Int) (t_s : Int) (t_x : Int) (t_loss : Int) (t_rtt : Int) (t_heard : Bool) (t_doubled : Int) (t_began : Bool) (t_started : Bool) (t_due : Int) (now : Int) : Option (List Leaf) :=
  br (!t_began)
    (one (minI now 4611686018427387904) fun x455 =>
     one (addI .i64 x455 2000000) fun x456 =>
     chk (decide (Int.ofNat (List.length t_set_l0) = Int.ofNat (List.length t_set_l0)) && true && true) <|
     some [.li (t_set_l0), .li (t_set_l1), .i (t_s), .i (t_x), .i (t_loss), .i (t_rtt), .b (t_heard), .i (t_doubled), .b (true), .b (true), .i (x456)])
    (chk (decide (Int.ofNat (List.length t_set_l0) = Int.ofNat (List.length t_set_l0)) && true && true) <|
     some [.li (t_set_l0), .li (t_set_l1), .i (t_s), .i (t_x), .i (t_loss), .i (t_rtt), .b (t_heard), .i (t_doubled), .b (t_began), .b (t_started), .i (t_due)])
def tfrc_Due (t_set_l0 : List Int) (t_set_l1 : List Int) (t_s : Int) (t_x : Int) (t_loss : Int) (t_rtt : Int) (t_heard : Bool) (t_doubled : Int) (t_began : Bool) (t_started : Bool) (t_due : Int) : Option (List Leaf) :=
  br (!t_started)
    (some [.i (0), .b (false)])
    (some [.i (t_due), .b (true)])
def tfrc_Fire (t_set_l0 : List Int) (t_set_l1 : List Int) (t_s : Int) (t_x : Int) (t_loss : Int) (t_rtt : Int) (t_heard : Bool) (t_doubled : Int) (t_began : Bool) (t_started : Bool) (t_due : Int) (now : Int) : Option (List Leaf) :=
  br (!t_started)
    (chk (decide (Int.ofNat (List.length t_set_l0) = Int.ofNat (List.length t_set_l0)) && true && true) <|
     some [.li (t_set_l0), .li (t_set_l1), .i (t_s), .i (t_x), .i (t_loss), .i (t_rtt), .b (t_heard), .i (t_doubled), .b (t_began), .b (t_started), .i (t_due), .b (false)])
    (one (minI now 4611686018427387904) fun x457 =>
     br (decide (x457 < t_due))
       (chk (decide (Int.ofNat (List.length t_set_l0) = Int.ofNat (List.length t_set_l0)) && true && true) <|
        some [.li (t_set_l0), .li (t_set_l1), .i (t_s), .i (t_x), .i (t_loss), .i (t_rtt), .b (t_heard), .i (t_doubled), .b (t_began), .b (t_started), .i (t_due), .b (false)])
       (one (quoI .u64 t_x 2) fun x458 =>
        one (maxI x458 t_s) fun x459 =>
        br (t_heard)
          (one (addI .u64 x459 1) fun x460 =>
           one (quoI .u64 x460 2) fun x461 =>
           chk (decide (Int.ofNat (List.length t_set_l0) = Int.ofNat (List.length t_set_l0)) && true && true) <|
           out (rset_Only t_set_l0 t_set_l1 x461 now) fun r462 =>
           un_li r462 fun x463 r464 =>
           un_li r464 fun x465 r466 =>
           un_nil r466 <|
           chk (decide (Int.ofNat (List.length x463) = Int.ofNat (List.length x463)) && true && true) <|
           out (tfrc_waits x463 x465 t_s x459 t_loss t_rtt t_heard t_doubled t_began t_started t_due now) fun r467 =>
           un_li r467 fun x468 r469 =>
           un_li r469 fun x470 r471 =>
           un_i r471 fun x472 r473 =>
           un_i r473 fun x474 r475 =>
           un_i r475 fun x476 r477 =>
           un_i r477 fun x478 r479 =>
           un_b r479 fun x480 r481 =>
           un_i r481 fun x482 r483 =>
           un_b r483 fun x484 r485 =>
           un_b r485 fun x486 r487 =>
           un_i r487 fun x488 r489 =>
           un_nil r489 <|
           chk (decide (Int.ofNat (List.length x468) = Int.ofNat (List.length x468)) && true && true) <|
           some [.li (x468), .li (x470), .i (x472), .i (x474), .i (x476), .i (x478), .b (x480), .i (x482), .b (x484), .b (decide (x474 > x472)), .i (x488), .b (true)])
          (chk (decide (Int.ofNat (List.length t_set_l0) = Int.ofNat (List.length t_set_l0)) && true && true) <|
           out (tfrc_waits t_set_l0 t_set_l1 t_s x459 t_loss t_rtt t_heard t_doubled t_began t_started t_due now) fun r490 =>
           un_li r490 fun x491 r492 =>
           un_li r492 fun x493 r494 =>
           un_i r494 fun x495 r496 =>
           un_i r496 fun x497 r498 =>
           un_i r498 fun x499 r500 =>
           un_i r500 fun x501 r502 =>
           un_b r502 fun x503 r504 =>
           un_i r504 fun x505 r506 =>
           un_b r506 fun x507 r508 =>
           un_b r508 fun x509 r510 =>
           un_i r510 fun x511 r512 =>
           un_nil r512 <|
           chk (decide (Int.ofNat (List.length x491) = Int.ofNat (List.length x491)) && true && true) <|
           some [.li (x491), .li (x493), .i (x495), .i (x497), .i (x499), .i (x501), .b (x503), .i (x505), .b (x507), .b (decide (x497 > x495)), .i (x511), .b (true)])))
end Go.Sx.T

