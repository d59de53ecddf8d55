import Derived.Test.YtllgbgponmkijaaGreatDoorYPaceSpec
import Derived.Test.YtllgbgponmkijaaGreatDoorYRPSpec
set_option linter.all false
namespace Go.Sx.T
open Go Go.Sx
def PaceFall (s : Int) (x : Int) (y : Int) (at2 : Int) : Option (List Leaf) :=
  one (remI .i64 s 1400) fun x265 =>
  one (addI .i64 x265 1400) fun x266 =>
  one (remI .i64 x266 1400) fun x267 =>
  one (addI .i64 1 x267) fun x268 =>
  one (remI .u64 x 1099511627776) fun x269 =>
  one (remI .u64 y 1099511627776) fun x270 =>
  one (minI at2 1048576) fun x271 =>
  one (maxI 0 x271) fun x272 =>
  out (pace_New x268 1000) fun r273 =>
  un_i r273 fun x274 r275 =>
  un_i r275 fun x276 r277 =>
  un_i r277 fun x278 r279 =>
  un_i r279 fun x280 r281 =>
  un_i r281 fun x282 r283 =>
  un_nil r283 <|
  one (wrapI .u64 x268) fun x284 =>
  out (pace_Rate x274 x276 x278 x280 x282 0 x269) fun r285 =>
  un_i r285 fun x286 r287 =>
  un_i r287 fun x288 r289 =>
  un_i r289 fun x290 r291 =>
  un_i r291 fun x292 r293 =>
  un_i r293 fun x294 r295 =>
  un_nil r295 <|
  out (rp_Rate x284 0 1000 0 0 0 x269) fun r296 =>
  un_i r296 fun x297 r298 =>
  un_i r298 fun x299 r300 =>
  un_i r300 fun x301 r302 =>
  un_i r302 fun x303 r304 =>
  un_i r304 fun x305 r306 =>
  un_nil r306 <|
  out (pace_Rate x286 x288 x290 x292 x294 x272 x270) fun r307 =>
  un_i r307 fun x308 r309 =>
  un_i r309 fun x310 r311 =>
  un_i r311 fun x312 r313 =>
  un_i r313 fun x314 r315 =>
  un_i r315 fun x316 r317 =>
  un_nil r317 <|
  out (rp_Rate x297 x299 x301 x303 x305 x272 x270) fun r318 =>
  un_i r318 fun x319 r320 =>
  un_i r320 fun x321 r322 =>
  un_i r322 fun x323 r324 =>
  un_i r324 fun x325 r326 =>
  un_i r326 fun x327 r328 =>
  un_nil r328 <|
  one (quoI .u64 x325 64000000) fun x329 =>
  one (minI x329 65535) fun x330 =>
  one (wrapI .i64 x330) fun x331 =>
  out (pace_Cap x308 x310 x312 x314 x316) fun r332 =>
  un_i r332 fun x333 r334 =>
  un_nil r334 <|
  one (wrapI .u64 x268) fun x335 =>
  one (mulI .u64 64000000 x335) fun x336 =>
  out (ref_Mul x270 1000) fun r337 =>
  un_i r337 fun x338 r339 =>
  un_nil r339 <|
  one (maxI x336 x338) fun x340 =>
  br (x333 == x340)
    (out (pace_May x308 x310 x312 x314 x316 x272 x331) fun r341 =>
     un_i r341 fun x342 r343 =>
     un_i r343 fun x344 r345 =>
     un_i r345 fun x346 r347 =>
     un_i r347 fun x348 r349 =>
     un_i r349 fun x350 r351 =>
     un_b r351 fun x352 r353 =>
     un_nil r353 <|
     br (x352)
       (br (x331 == 65535)
          (some [.b (true)])
          (one (addI .i64 x331 1) fun x354 =>
           out (pace_May x342 x344 x346 x348 x350 x272 x354) fun r355 =>
           un_i r355 fun x356 r357 =>
           un_i r357 fun x358 r359 =>
           un_i r359 fun x360 r361 =>
           un_i r361 fun x362 r363 =>
           un_i r363 fun x364 r365 =>
           un_b r365 fun x366 r367 =>
           un_nil r367 <|
           some [.b (!x366)]))
       (some [.b (false)]))
    (some [.b (false)])
end Go.Sx.T

