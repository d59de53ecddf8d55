import Derived.Test.YtllgbgponmkijaaGreatDoorYFixSpec
set_option linter.all false
namespace Go.Sx.T
open Go Go.Sx
def rp_Cap (p_S : Int) (p_X : Int) (p_Tick : Int) (p_Has : Int) (p_Now : Int) : Option (List Leaf) :=
  one (mulI .u64 64000000 p_S) fun x187 =>
  out (ref_Mul p_X p_Tick) fun r188 =>
  un_i r188 fun x189 r190 =>
  un_nil r190 <|
  one (maxI x187 x189) fun x191 =>
  some [.i (x191)]
def rp_To (p_S : Int) (p_X : Int) (p_Tick : Int) (p_Has : Int) (p_Now : Int) (now : Int) : Option (List Leaf) :=
  br (decide (now > p_Now))
    (one (subI .i64 now p_Now) fun x192 =>
     one (wrapI .u64 x192) fun x193 =>
     out (ref_Mul p_X x193) fun r194 =>
     un_i r194 fun x195 r196 =>
     un_nil r196 <|
     out (ref_Add p_Has x195) fun r197 =>
     un_i r197 fun x198 r199 =>
     un_nil r199 <|
     out (rp_Cap p_S p_X p_Tick x198 now) fun r200 =>
     un_i r200 fun x201 r202 =>
     un_nil r202 <|
     one (minI x198 x201) fun x203 =>
     some [.i (p_S), .i (p_X), .i (p_Tick), .i (x203), .i (now)])
    (out (rp_Cap p_S p_X p_Tick p_Has p_Now) fun r204 =>
     un_i r204 fun x205 r206 =>
     un_nil r206 <|
     one (minI p_Has x205) fun x207 =>
     some [.i (p_S), .i (p_X), .i (p_Tick), .i (x207), .i (p_Now)])
def rp_Rate (p_S : Int) (p_X : Int) (p_Tick : Int) (p_Has : Int) (p_Now : Int) (now : Int) (x : Int) : Option (List Leaf) :=
  out (rp_To p_S p_X p_Tick p_Has p_Now now) fun r208 =>
  un_i r208 fun x209 r210 =>
  un_i r210 fun x211 r212 =>
  un_i r212 fun x213 r214 =>
  un_i r214 fun x215 r216 =>
  un_i r216 fun x217 r218 =>
  un_nil r218 <|
  out (rp_Cap x209 x x213 x215 x217) fun r219 =>
  un_i r219 fun x220 r221 =>
  un_nil r221 <|
  one (minI x215 x220) fun x222 =>
  some [.i (x209), .i (x), .i (x213), .i (x222), .i (x217)]
def rp_Take (p_S : Int) (p_X : Int) (p_Tick : Int) (p_Has : Int) (p_Now : Int) (now : Int) (n2 : Int) (take : Bool) : Option (List Leaf) :=
  out (rp_To p_S p_X p_Tick p_Has p_Now now) fun r223 =>
  un_i r223 fun x224 r225 =>
  un_i r225 fun x226 r227 =>
  un_i r227 fun x228 r229 =>
  un_i r229 fun x230 r231 =>
  un_i r231 fun x232 r233 =>
  un_nil r233 <|
  br (decide (n2 < 0))
    (some [.i (x224), .i (x226), .i (x228), .i (x230), .i (x232), .b (false)])
    (br (decide (n2 > 65535))
       (some [.i (x224), .i (x226), .i (x228), .i (x230), .i (x232), .b (false)])
       (one (wrapI .u64 n2) fun x234 =>
        one (mulI .u64 64000000 x234) fun x235 =>
        br (decide (x230 < x235))
          (some [.i (x224), .i (x226), .i (x228), .i (x230), .i (x232), .b (false)])
          (br (take)
             (one (wrapI .u64 n2) fun x236 =>
              one (mulI .u64 64000000 x236) fun x237 =>
              one (subI .u64 x230 x237) fun x238 =>
              some [.i (x224), .i (x226), .i (x228), .i (x238), .i (x232), .b (true)])
             (some [.i (x224), .i (x226), .i (x228), .i (x230), .i (x232), .b (true)]))))
def rp_When (p_S : Int) (p_X : Int) (p_Tick : Int) (p_Has : Int) (p_Now : Int) (n2 : Int) : Option (List Leaf) :=
  br (decide (n2 < 0))
    (some [.i (4611686018427387904)])
    (br (decide (n2 > 65535))
       (some [.i (4611686018427387904)])
       (one (wrapI .u64 n2) fun x239 =>
        one (mulI .u64 64000000 x239) fun x240 =>
        out (rp_Cap p_S p_X p_Tick p_Has p_Now) fun r241 =>
        un_i r241 fun x242 r243 =>
        un_nil r243 <|
        br (decide (x240 > x242))
          (some [.i (4611686018427387904)])
          (one (wrapI .u64 n2) fun x244 =>
           one (mulI .u64 64000000 x244) fun x245 =>
           out (ref_Sub x245 p_Has) fun r246 =>
           un_i r246 fun x247 r248 =>
           un_nil r248 <|
           br (x247 == 0)
             (one (minI p_Now 4611686018427387904) fun x249 =>
              some [.i (x249)])
             (br (p_X == 0)
                (some [.i (4611686018427387904)])
                (chk (decide (p_X ≠ 0)) <|
                 one (quoI .u64 x247 p_X) fun x250 =>
                 chk (decide (p_X ≠ 0)) <|
                 one (remI .u64 x247 p_X) fun x251 =>
                 br (decide (x251 > 0))
                   (one (addI .u64 x250 1) fun x252 =>
                    one (wrapI .u64 p_Now) fun x253 =>
                    out (ref_Add x253 x252) fun r254 =>
                    un_i r254 fun x255 r256 =>
                    un_nil r256 <|
                    one (minI x255 4611686018427387904) fun x257 =>
                    one (wrapI .i64 x257) fun x258 =>
                    some [.i (x258)])
                   (one (wrapI .u64 p_Now) fun x259 =>
                    out (ref_Add x259 x250) fun r260 =>
                    un_i r260 fun x261 r262 =>
                    un_nil r262 <|
                    one (minI x261 4611686018427387904) fun x263 =>
                    one (wrapI .i64 x263) fun x264 =>
                    some [.i (x264)]))))))
end Go.Sx.T

