import Derived.Test.YtllgbgponmkijaaGreatDoorYPaceSpec
set_option linter.all false
namespace Go.Sx.T
open Go Go.Sx
def PaceWhen (s : Int) (n2 : Int) (x : Int) (at2 : Int) : Option (List Leaf) :=
  one (remI .i64 s 1400) fun x265 =>
  one (addI .i64 x265 1400) fun x266 =>
  one (remI .i64 x266 1400) fun x267 =>
  one (addI .i64 1 x267) fun x268 =>
  one (remI .i64 n2 1500) fun x269 =>
  one (addI .i64 x269 1500) fun x270 =>
  one (remI .i64 x270 1500) fun x271 =>
  one (remI .u64 x 100000000) fun x272 =>
  one (minI at2 1099511627776) fun x273 =>
  one (maxI 0 x273) fun x274 =>
  out (pace_New x268 0) fun r275 =>
  un_i r275 fun x276 r277 =>
  un_i r277 fun x278 r279 =>
  un_i r279 fun x280 r281 =>
  un_i r281 fun x282 r283 =>
  un_i r283 fun x284 r285 =>
  un_nil r285 <|
  out (pace_Rate x276 x278 x280 x282 x284 x274 x272) fun r286 =>
  un_i r286 fun x287 r288 =>
  un_i r288 fun x289 r290 =>
  un_i r290 fun x291 r292 =>
  un_i r292 fun x293 r294 =>
  un_i r294 fun x295 r296 =>
  un_nil r296 <|
  out (pace_When x287 x289 x291 x293 x295 x271) fun r297 =>
  un_i r297 fun x298 r299 =>
  un_nil r299 <|
  br (decide (x271 > x268))
    (some [.b (x298 == 4611686018427387904)])
    (br (x272 == 0)
       (br (decide (x271 > 0))
          (some [.b (x298 == 4611686018427387904)])
          (br (x271 == 0)
             (br (x298 == x274)
                (out (pace_Take x287 x289 x291 x293 x295 x274 0) fun r300 =>
                 un_i r300 fun x301 r302 =>
                 un_i r302 fun x303 r304 =>
                 un_i r304 fun x305 r306 =>
                 un_i r306 fun x307 r308 =>
                 un_i r308 fun x309 r310 =>
                 un_b r310 fun x311 r312 =>
                 un_nil r312 <|
                 some [.b (x311)])
                (some [.b (false)]))
             (out (pace_New x268 0) fun r313 =>
              un_i r313 fun x314 r315 =>
              un_i r315 fun x316 r317 =>
              un_i r317 fun x318 r319 =>
              un_i r319 fun x320 r321 =>
              un_i r321 fun x322 r323 =>
              un_nil r323 <|
              out (pace_Rate x314 x316 x318 x320 x322 x274 x272) fun r324 =>
              un_i r324 fun x325 r326 =>
              un_i r326 fun x327 r328 =>
              un_i r328 fun x329 r330 =>
              un_i r330 fun x331 r332 =>
              un_i r332 fun x333 r334 =>
              un_nil r334 <|
              br (decide (x298 > x274))
                (br (decide (x298 < 4611686018427387904))
                   (out (pace_May x287 x289 x291 x293 x295 x298 x271) fun r335 =>
                    un_i r335 fun x336 r337 =>
                    un_i r337 fun x338 r339 =>
                    un_i r339 fun x340 r341 =>
                    un_i r341 fun x342 r343 =>
                    un_i r343 fun x344 r345 =>
                    un_b r345 fun x346 r347 =>
                    un_nil r347 <|
                    br (x346)
                      (one (subI .i64 x298 1) fun x348 =>
                       out (pace_May x325 x327 x329 x331 x333 x348 x271) fun r349 =>
                       un_i r349 fun x350 r351 =>
                       un_i r351 fun x352 r353 =>
                       un_i r353 fun x354 r355 =>
                       un_i r355 fun x356 r357 =>
                       un_i r357 fun x358 r359 =>
                       un_b r359 fun x360 r361 =>
                       un_nil r361 <|
                       some [.b (!x360)])
                      (some [.b (false)]))
                   (some [.b (false)]))
                (some [.b (false)]))))
       (br (x271 == 0)
          (br (x298 == x274)
             (out (pace_Take x287 x289 x291 x293 x295 x274 0) fun r362 =>
              un_i r362 fun x363 r364 =>
              un_i r364 fun x365 r366 =>
              un_i r366 fun x367 r368 =>
              un_i r368 fun x369 r370 =>
              un_i r370 fun x371 r372 =>
              un_b r372 fun x373 r374 =>
              un_nil r374 <|
              some [.b (x373)])
             (some [.b (false)]))
          (out (pace_New x268 0) fun r375 =>
           un_i r375 fun x376 r377 =>
           un_i r377 fun x378 r379 =>
           un_i r379 fun x380 r381 =>
           un_i r381 fun x382 r383 =>
           un_i r383 fun x384 r385 =>
           un_nil r385 <|
           out (pace_Rate x376 x378 x380 x382 x384 x274 x272) fun r386 =>
           un_i r386 fun x387 r388 =>
           un_i r388 fun x389 r390 =>
           un_i r390 fun x391 r392 =>
           un_i r392 fun x393 r394 =>
           un_i r394 fun x395 r396 =>
           un_nil r396 <|
           br (decide (x298 > x274))
             (br (decide (x298 < 4611686018427387904))
                (out (pace_May x287 x289 x291 x293 x295 x298 x271) fun r397 =>
                 un_i r397 fun x398 r399 =>
                 un_i r399 fun x400 r401 =>
                 un_i r401 fun x402 r403 =>
                 un_i r403 fun x404 r405 =>
                 un_i r405 fun x406 r407 =>
                 un_b r407 fun x408 r409 =>
                 un_nil r409 <|
                 br (x408)
                   (one (subI .i64 x298 1) fun x410 =>
                    out (pace_May x387 x389 x391 x393 x395 x410 x271) fun r411 =>
                    un_i r411 fun x412 r413 =>
                    un_i r413 fun x414 r415 =>
                    un_i r415 fun x416 r417 =>
                    un_i r417 fun x418 r419 =>
                    un_i r419 fun x420 r421 =>
                    un_b r421 fun x422 r423 =>
                    un_nil r423 <|
                    some [.b (!x422)])
                   (some [.b (false)]))
                (some [.b (false)]))
             (some [.b (false)]))))
end Go.Sx.T

