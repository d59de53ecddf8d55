import Derived.Test.YtdjnfdcoilgegaaGreatDoorYFixSpec
set_option linter.all false
namespace Go.Sx.T
open Go Go.Sx
def pace_New (s : Int) (tick : Int) : Option (List Leaf) :=
  br (decide (s < 1))
    (none)
    (br (decide (s > 1400))
       (none)
       (br (decide (tick < 0))
          (none)
          (br (decide (tick > 1000000))
             (none)
             (one (wrapI .u64 s) fun x369 =>
              one (wrapI .u64 tick) fun x370 =>
              some [.i (x369), .i (x370), .i (0), .i (0), .i (0)]))))
def pace_Cap (p_s : Int) (p_tick : Int) (p_has : Int) (p_rate : Int) (p_now : Int) : Option (List Leaf) :=
  one (mulI .u64 64000000 p_s) fun x371 =>
  out (fix_Mul p_rate p_tick) fun r372 =>
  un_i r372 fun x373 r374 =>
  un_nil r374 <|
  one (maxI x371 x373) fun x375 =>
  some [.i (x375)]
def pace_gets (p_s : Int) (p_tick : Int) (p_has : Int) (p_rate : Int) (p_now : Int) (now : Int) : Option (List Leaf) :=
  one (minI now 4611686018427387904) fun x376 =>
  br (decide (x376 ≤ p_now))
    (some [.i (p_s), .i (p_tick), .i (p_has), .i (p_rate), .i (p_now)])
    (one (wrapI .u64 x376) fun x377 =>
     one (wrapI .u64 p_now) fun x378 =>
     one (subI .u64 x377 x378) fun x379 =>
     out (fix_Mul p_rate x379) fun r380 =>
     un_i r380 fun x381 r382 =>
     un_nil r382 <|
     out (fix_Add p_has x381) fun r383 =>
     un_i r383 fun x384 r385 =>
     un_nil r385 <|
     out (pace_Cap p_s p_tick p_has p_rate p_now) fun r386 =>
     un_i r386 fun x387 r388 =>
     un_nil r388 <|
     one (minI x384 x387) fun x389 =>
     some [.i (p_s), .i (p_tick), .i (x389), .i (p_rate), .i (x376)])
def pace_Rate (p_s : Int) (p_tick : Int) (p_has : Int) (p_rate : Int) (p_now : Int) (now : Int) (x : Int) : Option (List Leaf) :=
  out (pace_gets p_s p_tick p_has p_rate p_now now) fun r390 =>
  un_i r390 fun x391 r392 =>
  un_i r392 fun x393 r394 =>
  un_i r394 fun x395 r396 =>
  un_i r396 fun x397 r398 =>
  un_i r398 fun x399 r400 =>
  un_nil r400 <|
  out (pace_Cap x391 x393 x395 x x399) fun r401 =>
  un_i r401 fun x402 r403 =>
  un_nil r403 <|
  one (minI x395 x402) fun x404 =>
  some [.i (x391), .i (x393), .i (x404), .i (x), .i (x399)]
def pace_May (p_s : Int) (p_tick : Int) (p_has : Int) (p_rate : Int) (p_now : Int) (now : Int) (n2 : Int) : Option (List Leaf) :=
  out (pace_gets p_s p_tick p_has p_rate p_now now) fun r405 =>
  un_i r405 fun x406 r407 =>
  un_i r407 fun x408 r409 =>
  un_i r409 fun x410 r411 =>
  un_i r411 fun x412 r413 =>
  un_i r413 fun x414 r415 =>
  un_nil r415 <|
  br (decide (n2 ≥ 0))
    (br (decide (n2 ≤ 65535))
       (one (wrapI .u64 n2) fun x416 =>
        one (mulI .u64 64000000 x416) fun x417 =>
        some [.i (x406), .i (x408), .i (x410), .i (x412), .i (x414), .b (decide (x410 ≥ x417))])
       (some [.i (x406), .i (x408), .i (x410), .i (x412), .i (x414), .b (false)]))
    (some [.i (x406), .i (x408), .i (x410), .i (x412), .i (x414), .b (false)])
def pace_Take (p_s : Int) (p_tick : Int) (p_has : Int) (p_rate : Int) (p_now : Int) (now : Int) (n2 : Int) : Option (List Leaf) :=
  out (pace_May p_s p_tick p_has p_rate p_now now n2) fun r418 =>
  un_i r418 fun x419 r420 =>
  un_i r420 fun x421 r422 =>
  un_i r422 fun x423 r424 =>
  un_i r424 fun x425 r426 =>
  un_i r426 fun x427 r428 =>
  un_b r428 fun x429 r430 =>
  un_nil r430 <|
  br (!x429)
    (some [.i (x419), .i (x421), .i (x423), .i (x425), .i (x427), .b (false)])
    (one (wrapI .u64 n2) fun x431 =>
     one (mulI .u64 64000000 x431) fun x432 =>
     one (subI .u64 x423 x432) fun x433 =>
     some [.i (x419), .i (x421), .i (x433), .i (x425), .i (x427), .b (true)])
end Go.Sx.T

