import Derived.Test.YtllgbgponmkijaaGreatDoorYQueSpec
set_option linter.all false
namespace Go.Sx.T
open Go Go.Sx
def law1_Text (s : ByteArray) (n2 : Int) : Option (List Leaf) :=
  one ((↑(ByteArray.size s) : Int)) fun x2914 =>
  one (minI x2914 n2) fun x2915 =>
  chk (condSl (↑(ByteArray.size s) : Int) Option.none (Option.some x2915)) <|
  some [.s (strSlO s Option.none (Option.some x2915))]
def QueueAll_10_B  {α : Type} (kx : Nat → List Leaf → Option α) (kr : List Leaf → Option α) (again : List Int → List ByteArray → List ByteArray → List ByteArray → Int → Int → Int → Int → Int → Option α) (ops0 : List Int) (ops1 : List ByteArray) (q_l : List ByteArray) (w : List ByteArray) (q_most : Int) (i : Int) (bytes : Int) (most : Int) (big : Int) : Option α :=
  one (Int.ofNat (List.length ops0)) fun x3199 =>
  br (decide (i < x3199))
    (br (decide (i < 60))
       (chk (decide ((0 : Int) ≤ i ∧ i < Int.ofNat (List.length ops0))) <|
        chk (decide ((0 : Int) ≤ i ∧ i < Int.ofNat (List.length ops0))) <|
        out (law1_Text (List.getD ops1 (Int.toNat i) ByteArray.empty) 30) fun r3200 =>
        un_s r3200 fun x3201 r3202 =>
        un_nil r3202 <|
        one (remI .i64 big 60) fun x3203 =>
        one (addI .i64 x3203 60) fun x3204 =>
        one (remI .i64 x3204 60) fun x3205 =>
        br (i == x3205)
          (one (remI .i64 big 10) fun x3206 =>
           one (addI .i64 x3206 10) fun x3207 =>
           one (remI .i64 x3207 10) fun x3208 =>
           one (addI .i64 1395 x3208) fun x3209 =>
           chk (decide ((0 : Int) ≤ x3209 ∧ x3209 ≤ x3209 ∧ (↑(nat_lit 1) : Int) * x3209 ≤ (140737488355328 : Int) ∧ x3209 ≤ (4611686018427387904 : Int))) <|
           chk (rowIn Option.none x3209 x3209) <|
           chk (decide ((0 : Int) ≤ i ∧ i < Int.ofNat (List.length ops0))) <|
           chk (decide ((0 : Int) ≤ i ∧ i < Int.ofNat (List.length ops0))) <|
           br (List.getD ops0 (Int.toNat i) 0 == 0)
             (one ((↑(ByteArray.size (strOfI (partL Option.none x3209 (List.replicate (Int.toNat x3209) 0)))) : Int)) fun x3210 =>
              br (decide (x3210 > 1400))
                (chk (decide (Int.ofNat (List.length q_l) = Int.ofNat (List.length q_l)) && true && true) <|
                 out (queue_Put q_l q_most (strOfI (partL Option.none x3209 (List.replicate (Int.toNat x3209) 0)))) fun r3211 =>
                 un_ls r3211 fun x3212 r3213 =>
                 un_i r3213 fun x3214 r3215 =>
                 un_i r3215 fun x3216 r3217 =>
                 un_nil r3217 <|
                 br (x3216 != 13)
                   (kr [.li (ops0), .ls (ops1), .b (false)])
                   (chk (decide (Int.ofNat (List.length x3212) = Int.ofNat (List.length x3212)) && true && true) <|
                    out (queue_Len x3212 x3214) fun r3218 =>
                    un_i r3218 fun x3219 r3220 =>
                    un_nil r3220 <|
                    one (Int.ofNat (List.length w)) fun x3221 =>
                    br (x3219 != x3221)
                      (kr [.li (ops0), .ls (ops1), .b (false)])
                      (chk (decide (Int.ofNat (List.length x3212) = Int.ofNat (List.length x3212)) && true && true) <|
                       out (queue_Bytes x3212 x3214) fun r3222 =>
                       un_i r3222 fun x3223 r3224 =>
                       un_nil r3224 <|
                       br (x3223 != bytes)
                         (kr [.li (ops0), .ls (ops1), .b (false)])
                         (one (addI .i64 i 1) fun x3225 =>
                          chk (decide (Int.ofNat (List.length x3212) = Int.ofNat (List.length x3212)) && true && true) <|
                          chk (decide (Int.ofNat (List.length w) = Int.ofNat (List.length w)) && (decide (Int.ofNat (List.length ops0) = Int.ofNat (List.length ops0)) && true)) <|
                          again (ops0) (ops1) (x3212) (w) (x3214) (x3225) (bytes) (most) (big)))))
                (one (Int.ofNat (List.length w)) fun x3226 =>
                 br (decide (x3226 ≥ most))
                   (chk (decide (Int.ofNat (List.length q_l) = Int.ofNat (List.length q_l)) && true && true) <|
                    out (queue_Put q_l q_most (strOfI (partL Option.none x3209 (List.replicate (Int.toNat x3209) 0)))) fun r3227 =>
                    un_ls r3227 fun x3228 r3229 =>
                    un_i r3229 fun x3230 r3231 =>
                    un_i r3231 fun x3232 r3233 =>
                    un_nil r3233 <|
                    br (x3232 != 9)
                      (kr [.li (ops0), .ls (ops1), .b (false)])
                      (chk (decide (Int.ofNat (List.length x3228) = Int.ofNat (List.length x3228)) && true && true) <|
                       out (queue_Len x3228 x3230) fun r3234 =>
                       un_i r3234 fun x3235 r3236 =>
                       un_nil r3236 <|
                       one (Int.ofNat (List.length w)) fun x3237 =>
                       br (x3235 != x3237)
                         (kr [.li (ops0), .ls (ops1), .b (false)])
                         (chk (decide (Int.ofNat (List.length x3228) = Int.ofNat (List.length x3228)) && true && true) <|
                          out (queue_Bytes x3228 x3230) fun r3238 =>
                          un_i r3238 fun x3239 r3240 =>
                          un_nil r3240 <|
                          br (x3239 != bytes)
                            (kr [.li (ops0), .ls (ops1), .b (false)])
                            (one (addI .i64 i 1) fun x3241 =>
                             chk (decide (Int.ofNat (List.length x3228) = Int.ofNat (List.length x3228)) && true && true) <|
                             chk (decide (Int.ofNat (List.length w) = Int.ofNat (List.length w)) && (decide (Int.ofNat (List.length ops0) = Int.ofNat (List.length ops0)) && true)) <|
                             again (ops0) (ops1) (x3228) (w) (x3230) (x3241) (bytes) (most) (big)))))
                   (chk (decide (Int.ofNat (List.length w) = Int.ofNat (List.length w)) && true && decide ((Int.ofNat (List.length w) + (↑(1 : Nat) : Int)) * (↑(nat_lit 16) : Int) ≤ (140737488355328 : Int) ∧ Int.ofNat (List.length w) + (↑(1 : Nat) : Int) ≤ (4611686018427387904 : Int))) <|
                    one ((↑(ByteArray.size (strOfI (partL Option.none x3209 (List.replicate (Int.toNat x3209) 0)))) : Int)) fun x3242 =>
                    one (addI .i64 bytes x3242) fun x3243 =>
                    chk (decide (Int.ofNat (List.length q_l) = Int.ofNat (List.length q_l)) && true && true) <|
                    out (queue_Put q_l q_most (strOfI (partL Option.none x3209 (List.replicate (Int.toNat x3209) 0)))) fun r3244 =>
                    un_ls r3244 fun x3245 r3246 =>
                    un_i r3246 fun x3247 r3248 =>
                    un_i r3248 fun x3249 r3250 =>
                    un_nil r3250 <|
                    br (x3249 != 0)
                      (kr [.li (ops0), .ls (ops1), .b (false)])
                      (chk (decide (Int.ofNat (List.length x3245) = Int.ofNat (List.length x3245)) && true && true) <|
                       out (queue_Len x3245 x3247) fun r3251 =>
                       un_i r3251 fun x3252 r3253 =>
                       un_nil r3253 <|
                       one (Int.ofNat (List.length w) + (↑1 : Int)) fun x3254 =>
                       br (x3252 != x3254)
                         (kr [.li (ops0), .ls (ops1), .b (false)])
                         (chk (decide (Int.ofNat (List.length x3245) = Int.ofNat (List.length x3245)) && true && true) <|
                          out (queue_Bytes x3245 x3247) fun r3255 =>
                          un_i r3255 fun x3256 r3257 =>
                          un_nil r3257 <|
                          br (x3256 != x3243)
                            (kr [.li (ops0), .ls (ops1), .b (false)])
                            (one (addI .i64 i 1) fun x3258 =>
                             chk (decide (Int.ofNat (List.length x3245) = Int.ofNat (List.length x3245)) && true && true) <|
                             chk (decide (Int.ofNat (List.length w) + (↑(1 : Nat) : Int) = Int.ofNat (List.length (w ++ [strOfI (partL Option.none x3209 (List.replicate (Int.toNat x3209) (0 : Int)))]))) && (decide (Int.ofNat (List.length ops0) = Int.ofNat (List.length ops0)) && true)) <|
                             again (ops0) (ops1) (x3245) (w ++ [strOfI (partL Option.none x3209 (List.replicate (Int.toNat x3209) (0 : Int)))]) (x3247) (x3258) (x3243) (most) (big)))))))
             (chk (decide (Int.ofNat (List.length q_l) = Int.ofNat (List.length q_l)) && true && true) <|
              out (queue_First q_l q_most) fun r3259 =>
              un_s r3259 fun x3260 r3261 =>
              un_b r3261 fun x3262 r3263 =>
              un_nil r3263 <|
              chk (decide (Int.ofNat (List.length q_l) = Int.ofNat (List.length q_l)) && true && true) <|
              out (queue_Take q_l q_most) fun r3264 =>
              un_ls r3264 fun x3265 r3266 =>
              un_i r3266 fun x3267 r3268 =>
              un_s r3268 fun x3269 r3270 =>
              un_b r3270 fun x3271 r3272 =>
              un_nil r3272 <|
              one (Int.ofNat (List.length w)) fun x3273 =>
              br (!x3262 == decide (x3273 > 0))
                (kr [.li (ops0), .ls (ops1), .b (false)])
                (br (!x3271 == x3262)
                   (kr [.li (ops0), .ls (ops1), .b (false)])
                   (br (!x3260 == x3269)
                      (kr [.li (ops0), .ls (ops1), .b (false)])
                      (br (x3262)
                         (chk (decide ((0 : Int) ≤ (0 : Int) ∧ (0 : Int) < Int.ofNat (List.length w))) <|
                          chk (decide ((0 : Int) ≤ Int.ofNat (nat_lit 0) ∧ Int.ofNat (nat_lit 0) < Int.ofNat (List.length w))) <|
                          br (!x3269 == List.getD w (Int.toNat (Int.ofNat 0)) ByteArray.empty)
                            (kr [.li (ops0), .ls (ops1), .b (false)])
                            (br (!x3262)
                               (br (!x3269 == { data := #[] })
                                  (kr [.li (ops0), .ls (ops1), .b (false)])
                                  (br (x3262)
                                     (chk (decide ((0 : Int) ≤ (0 : Int) ∧ (0 : Int) < Int.ofNat (List.length w))) <|
                                      chk (decide ((0 : Int) ≤ Int.ofNat (nat_lit 0) ∧ Int.ofNat (nat_lit 0) < Int.ofNat (List.length w))) <|
                                      one ((↑(ByteArray.size (List.getD w (Int.toNat (Int.ofNat 0)) ByteArray.empty)) : Int)) fun x3274 =>
                                      one (subI .i64 bytes x3274) fun x3275 =>
                                      chk (condSl (rlOf [[Col.int .i64 ops0, Col.str ops1], [], [Col.str q_l], [Col.str w]] (3 : Nat)) (Option.some (1 : Int)) Option.none) <|
                                      chk (decide (Int.ofNat (List.length x3265) = Int.ofNat (List.length x3265)) && true && true) <|
                                      out (queue_Len x3265 x3267) fun r3276 =>
                                      un_i r3276 fun x3277 r3278 =>
                                      un_nil r3278 <|
                                      one (lenSl (rlOf [[Col.int .i64 ops0, Col.str ops1], [], [Col.str q_l], [Col.str w]] (3 : Nat)) (Option.some (1 : Int)) Option.none) fun x3279 =>
                                      br (x3277 != x3279)
                                        (kr [.li (ops0), .ls (ops1), .b (false)])
                                        (chk (decide (Int.ofNat (List.length x3265) = Int.ofNat (List.length x3265)) && true && true) <|
                                         out (queue_Bytes x3265 x3267) fun r3280 =>
                                         un_i r3280 fun x3281 r3282 =>
                                         un_nil r3282 <|
                                         br (x3281 != x3275)
                                           (kr [.li (ops0), .ls (ops1), .b (false)])
                                           (one (addI .i64 i 1) fun x3283 =>
                                            chk (decide (Int.ofNat (nat_lit 1) + lenSl (rlOf [[Col.int .i64 ops0, Col.str ops1], [], [Col.str q_l], [Col.str w]] (3 : Nat)) (Option.some (1 : Int)) Option.none ≤ Int.ofNat (List.length w))) <|
                                            chk (decide (Int.ofNat (List.length x3265) = Int.ofNat (List.length x3265)) && true && true) <|
                                            chk (decide (lenSl (rlOf [[Col.int .i64 ops0, Col.str ops1], [], [Col.str q_l], [Col.str w]] (3 : Nat)) (Option.some (1 : Int)) Option.none = Int.ofNat (List.length (List.take (Int.toNat (lenSl (rlOf [[Col.int .i64 ops0, Col.str ops1], [], [Col.str q_l], [Col.str w]] (3 : Nat)) (Option.some (1 : Int)) Option.none)) (List.drop (Int.toNat (Int.ofNat (nat_lit 1))) w)))) && (decide (Int.ofNat (List.length ops0) = Int.ofNat (List.length ops0)) && true)) <|
                                            again (ops0) (ops1) (x3265) (List.take (Int.toNat (lenSl (rlOf [[Col.int .i64 ops0, Col.str ops1], [], [Col.str q_l], [Col.str w]] (3 : Nat)) (Option.some (1 : Int)) Option.none)) (List.drop (Int.toNat (Int.ofNat (nat_lit 1))) w)) (x3267) (x3283) (x3275) (most) (big))))
                                     (chk (decide (Int.ofNat (List.length x3265) = Int.ofNat (List.length x3265)) && true && true) <|
                                      out (queue_Len x3265 x3267) fun r3284 =>
                                      un_i r3284 fun x3285 r3286 =>
                                      un_nil r3286 <|
                                      one (Int.ofNat (List.length w)) fun x3287 =>
                                      br (x3285 != x3287)
                                        (kr [.li (ops0), .ls (ops1), .b (false)])
                                        (chk (decide (Int.ofNat (List.length x3265) = Int.ofNat (List.length x3265)) && true && true) <|
                                         out (queue_Bytes x3265 x3267) fun r3288 =>
                                         un_i r3288 fun x3289 r3290 =>
                                         un_nil r3290 <|
                                         br (x3289 != bytes)
                                           (kr [.li (ops0), .ls (ops1), .b (false)])
                                           (one (addI .i64 i 1) fun x3291 =>
                                            chk (decide (Int.ofNat (List.length x3265) = Int.ofNat (List.length x3265)) && true && true) <|
                                            chk (decide (Int.ofNat (List.length w) = Int.ofNat (List.length w)) && (decide (Int.ofNat (List.length ops0) = Int.ofNat (List.length ops0)) && true)) <|
                                            again (ops0) (ops1) (x3265) (w) (x3267) (x3291) (bytes) (most) (big))))))
                               (br (x3262)
                                  (chk (decide ((0 : Int) ≤ (0 : Int) ∧ (0 : Int) < Int.ofNat (List.length w))) <|
                                   chk (decide ((0 : Int) ≤ Int.ofNat (nat_lit 0) ∧ Int.ofNat (nat_lit 0) < Int.ofNat (List.length w))) <|
                                   one ((↑(ByteArray.size (List.getD w (Int.toNat (Int.ofNat 0)) ByteArray.empty)) : Int)) fun x3292 =>
                                   one (subI .i64 bytes x3292) fun x3293 =>
                                   chk (condSl (rlOf [[Col.int .i64 ops0, Col.str ops1], [], [Col.str q_l], [Col.str w]] (3 : Nat)) (Option.some (1 : Int)) Option.none) <|
                                   chk (decide (Int.ofNat (List.length x3265) = Int.ofNat (List.length x3265)) && true && true) <|
                                   out (queue_Len x3265 x3267) fun r3294 =>
                                   un_i r3294 fun x3295 r3296 =>
                                   un_nil r3296 <|
                                   one (lenSl (rlOf [[Col.int .i64 ops0, Col.str ops1], [], [Col.str q_l], [Col.str w]] (3 : Nat)) (Option.some (1 : Int)) Option.none) fun x3297 =>
                                   br (x3295 != x3297)
                                     (kr [.li (ops0), .ls (ops1), .b (false)])
                                     (chk (decide (Int.ofNat (List.length x3265) = Int.ofNat (List.length x3265)) && true && true) <|
                                      out (queue_Bytes x3265 x3267) fun r3298 =>
                                      un_i r3298 fun x3299 r3300 =>
                                      un_nil r3300 <|
                                      br (x3299 != x3293)
                                        (kr [.li (ops0), .ls (ops1), .b (false)])
                                        (one (addI .i64 i 1) fun x3301 =>
                                         chk (decide (Int.ofNat (nat_lit 1) + lenSl (rlOf [[Col.int .i64 ops0, Col.str ops1], [], [Col.str q_l], [Col.str w]] (3 : Nat)) (Option.some (1 : Int)) Option.none ≤ Int.ofNat (List.length w))) <|
                                         chk (decide (Int.ofNat (List.length x3265) = Int.ofNat (List.length x3265)) && true && true) <|
                                         chk (decide (lenSl (rlOf [[Col.int .i64 ops0, Col.str ops1], [], [Col.str q_l], [Col.str w]] (3 : Nat)) (Option.some (1 : Int)) Option.none = Int.ofNat (List.length (List.take (Int.toNat (lenSl (rlOf [[Col.int .i64 ops0, Col.str ops1], [], [Col.str q_l], [Col.str w]] (3 : Nat)) (Option.some (1 : Int)) Option.none)) (List.drop (Int.toNat (Int.ofNat (nat_lit 1))) w)))) && (decide (Int.ofNat (List.length ops0) = Int.ofNat (List.length ops0)) && true)) <|
                                         again (ops0) (ops1) (x3265) (List.take (Int.toNat (lenSl (rlOf [[Col.int .i64 ops0, Col.str ops1], [], [Col.str q_l], [Col.str w]] (3 : Nat)) (Option.some (1 : Int)) Option.none)) (List.drop (Int.toNat (Int.ofNat (nat_lit 1))) w)) (x3267) (x3301) (x3293) (most) (big))))
                                  (chk (decide (Int.ofNat (List.length x3265) = Int.ofNat (List.length x3265)) && true && true) <|
                                   out (queue_Len x3265 x3267) fun r3302 =>
                                   un_i r3302 fun x3303 r3304 =>
                                   un_nil r3304 <|
                                   one (Int.ofNat (List.length w)) fun x3305 =>
                                   br (x3303 != x3305)
                                     (kr [.li (ops0), .ls (ops1), .b (false)])
                                     (chk (decide (Int.ofNat (List.length x3265) = Int.ofNat (List.length x3265)) && true && true) <|
                                      out (queue_Bytes x3265 x3267) fun r3306 =>
                                      un_i r3306 fun x3307 r3308 =>
                                      un_nil r3308 <|
                                      br (x3307 != bytes)
                                        (kr [.li (ops0), .ls (ops1), .b (false)])
                                        (one (addI .i64 i 1) fun x3309 =>
                                         chk (decide (Int.ofNat (List.length x3265) = Int.ofNat (List.length x3265)) && true && true) <|
                                         chk (decide (Int.ofNat (List.length w) = Int.ofNat (List.length w)) && (decide (Int.ofNat (List.length ops0) = Int.ofNat (List.length ops0)) && true)) <|
                                         again (ops0) (ops1) (x3265) (w) (x3267) (x3309) (bytes) (most) (big)))))))
                         (br (!x3262)
                            (br (!x3269 == { data := #[] })
                               (kr [.li (ops0), .ls (ops1), .b (false)])
                               (br (x3262)
                                  (chk (decide ((0 : Int) ≤ (0 : Int) ∧ (0 : Int) < Int.ofNat (List.length w))) <|
                                   chk (decide ((0 : Int) ≤ Int.ofNat (nat_lit 0) ∧ Int.ofNat (nat_lit 0) < Int.ofNat (List.length w))) <|
                                   one ((↑(ByteArray.size (List.getD w (Int.toNat (Int.ofNat 0)) ByteArray.empty)) : Int)) fun x3310 =>
                                   one (subI .i64 bytes x3310) fun x3311 =>
                                   chk (condSl (rlOf [[Col.int .i64 ops0, Col.str ops1], [], [Col.str q_l], [Col.str w]] (3 : Nat)) (Option.some (1 : Int)) Option.none) <|
                                   chk (decide (Int.ofNat (List.length x3265) = Int.ofNat (List.length x3265)) && true && true) <|
                                   out (queue_Len x3265 x3267) fun r3312 =>
                                   un_i r3312 fun x3313 r3314 =>
                                   un_nil r3314 <|
                                   one (lenSl (rlOf [[Col.int .i64 ops0, Col.str ops1], [], [Col.str q_l], [Col.str w]] (3 : Nat)) (Option.some (1 : Int)) Option.none) fun x3315 =>
                                   br (x3313 != x3315)
                                     (kr [.li (ops0), .ls (ops1), .b (false)])
                                     (chk (decide (Int.ofNat (List.length x3265) = Int.ofNat (List.length x3265)) && true && true) <|
                                      out (queue_Bytes x3265 x3267) fun r3316 =>
                                      un_i r3316 fun x3317 r3318 =>
                                      un_nil r3318 <|
                                      br (x3317 != x3311)
                                        (kr [.li (ops0), .ls (ops1), .b (false)])
                                        (one (addI .i64 i 1) fun x3319 =>
                                         chk (decide (Int.ofNat (nat_lit 1) + lenSl (rlOf [[Col.int .i64 ops0, Col.str ops1], [], [Col.str q_l], [Col.str w]] (3 : Nat)) (Option.some (1 : Int)) Option.none ≤ Int.ofNat (List.length w))) <|
                                         chk (decide (Int.ofNat (List.length x3265) = Int.ofNat (List.length x3265)) && true && true) <|
                                         chk (decide (lenSl (rlOf [[Col.int .i64 ops0, Col.str ops1], [], [Col.str q_l], [Col.str w]] (3 : Nat)) (Option.some (1 : Int)) Option.none = Int.ofNat (List.length (List.take (Int.toNat (lenSl (rlOf [[Col.int .i64 ops0, Col.str ops1], [], [Col.str q_l], [Col.str w]] (3 : Nat)) (Option.some (1 : Int)) Option.none)) (List.drop (Int.toNat (Int.ofNat (nat_lit 1))) w)))) && (decide (Int.ofNat (List.length ops0) = Int.ofNat (List.length ops0)) && true)) <|
                                         again (ops0) (ops1) (x3265) (List.take (Int.toNat (lenSl (rlOf [[Col.int .i64 ops0, Col.str ops1], [], [Col.str q_l], [Col.str w]] (3 : Nat)) (Option.some (1 : Int)) Option.none)) (List.drop (Int.toNat (Int.ofNat (nat_lit 1))) w)) (x3267) (x3319) (x3311) (most) (big))))
                                  (chk (decide (Int.ofNat (List.length x3265) = Int.ofNat (List.length x3265)) && true && true) <|
                                   out (queue_Len x3265 x3267) fun r3320 =>
                                   un_i r3320 fun x3321 r3322 =>
                                   un_nil r3322 <|
                                   one (Int.ofNat (List.length w)) fun x3323 =>
                                   br (x3321 != x3323)
                                     (kr [.li (ops0), .ls (ops1), .b (false)])
                                     (chk (decide (Int.ofNat (List.length x3265) = Int.ofNat (List.length x3265)) && true && true) <|
                                      out (queue_Bytes x3265 x3267) fun r3324 =>
                                      un_i r3324 fun x3325 r3326 =>
                                      un_nil r3326 <|
                                      br (x3325 != bytes)
                                        (kr [.li (ops0), .ls (ops1), .b (false)])
                                        (one (addI .i64 i 1) fun x3327 =>
                                         chk (decide (Int.ofNat (List.length x3265) = Int.ofNat (List.length x3265)) && true && true) <|
                                         chk (decide (Int.ofNat (List.length w) = Int.ofNat (List.length w)) && (decide (Int.ofNat (List.length ops0) = Int.ofNat (List.length ops0)) && true)) <|
                                         again (ops0) (ops1) (x3265) (w) (x3267) (x3327) (bytes) (most) (big))))))
                            (br (x3262)
                               (chk (decide ((0 : Int) ≤ (0 : Int) ∧ (0 : Int) < Int.ofNat (List.length w))) <|
                                chk (decide ((0 : Int) ≤ Int.ofNat (nat_lit 0) ∧ Int.ofNat (nat_lit 0) < Int.ofNat (List.length w))) <|
                                one ((↑(ByteArray.size (List.getD w (Int.toNat (Int.ofNat 0)) ByteArray.empty)) : Int)) fun x3328 =>
                                one (subI .i64 bytes x3328) fun x3329 =>
                                chk (condSl (rlOf [[Col.int .i64 ops0, Col.str ops1], [], [Col.str q_l], [Col.str w]] (3 : Nat)) (Option.some (1 : Int)) Option.none) <|
                                chk (decide (Int.ofNat (List.length x3265) = Int.ofNat (List.length x3265)) && true && true) <|
                                out (queue_Len x3265 x3267) fun r3330 =>
                                un_i r3330 fun x3331 r3332 =>
                                un_nil r3332 <|
                                one (lenSl (rlOf [[Col.int .i64 ops0, Col.str ops1], [], [Col.str q_l], [Col.str w]] (3 : Nat)) (Option.some (1 : Int)) Option.none) fun x3333 =>
                                br (x3331 != x3333)
                                  (kr [.li (ops0), .ls (ops1), .b (false)])
                                  (chk (decide (Int.ofNat (List.length x3265) = Int.ofNat (List.length x3265)) && true && true) <|
                                   out (queue_Bytes x3265 x3267) fun r3334 =>
                                   un_i r3334 fun x3335 r3336 =>
                                   un_nil r3336 <|
                                   br (x3335 != x3329)
                                     (kr [.li (ops0), .ls (ops1), .b (false)])
                                     (one (addI .i64 i 1) fun x3337 =>
                                      chk (decide (Int.ofNat (nat_lit 1) + lenSl (rlOf [[Col.int .i64 ops0, Col.str ops1], [], [Col.str q_l], [Col.str w]] (3 : Nat)) (Option.some (1 : Int)) Option.none ≤ Int.ofNat (List.length w))) <|
                                      chk (decide (Int.ofNat (List.length x3265) = Int.ofNat (List.length x3265)) && true && true) <|
                                      chk (decide (lenSl (rlOf [[Col.int .i64 ops0, Col.str ops1], [], [Col.str q_l], [Col.str w]] (3 : Nat)) (Option.some (1 : Int)) Option.none = Int.ofNat (List.length (List.take (Int.toNat (lenSl (rlOf [[Col.int .i64 ops0, Col.str ops1], [], [Col.str q_l], [Col.str w]] (3 : Nat)) (Option.some (1 : Int)) Option.none)) (List.drop (Int.toNat (Int.ofNat (nat_lit 1))) w)))) && (decide (Int.ofNat (List.length ops0) = Int.ofNat (List.length ops0)) && true)) <|
                                      again (ops0) (ops1) (x3265) (List.take (Int.toNat (lenSl (rlOf [[Col.int .i64 ops0, Col.str ops1], [], [Col.str q_l], [Col.str w]] (3 : Nat)) (Option.some (1 : Int)) Option.none)) (List.drop (Int.toNat (Int.ofNat (nat_lit 1))) w)) (x3267) (x3337) (x3329) (most) (big))))
                               (chk (decide (Int.ofNat (List.length x3265) = Int.ofNat (List.length x3265)) && true && true) <|
                                out (queue_Len x3265 x3267) fun r3338 =>
                                un_i r3338 fun x3339 r3340 =>
                                un_nil r3340 <|
                                one (Int.ofNat (List.length w)) fun x3341 =>
                                br (x3339 != x3341)
                                  (kr [.li (ops0), .ls (ops1), .b (false)])
                                  (chk (decide (Int.ofNat (List.length x3265) = Int.ofNat (List.length x3265)) && true && true) <|
                                   out (queue_Bytes x3265 x3267) fun r3342 =>
                                   un_i r3342 fun x3343 r3344 =>
                                   un_nil r3344 <|
                                   br (x3343 != bytes)
                                     (kr [.li (ops0), .ls (ops1), .b (false)])
                                     (one (addI .i64 i 1) fun x3345 =>
                                      chk (decide (Int.ofNat (List.length x3265) = Int.ofNat (List.length x3265)) && true && true) <|
                                      chk (decide (Int.ofNat (List.length w) = Int.ofNat (List.length w)) && (decide (Int.ofNat (List.length ops0) = Int.ofNat (List.length ops0)) && true)) <|
                                      again (ops0) (ops1) (x3265) (w) (x3267) (x3345) (bytes) (most) (big)))))))))))
          (chk (decide ((0 : Int) ≤ i ∧ i < Int.ofNat (List.length ops0))) <|
           chk (decide ((0 : Int) ≤ i ∧ i < Int.ofNat (List.length ops0))) <|
           br (List.getD ops0 (Int.toNat i) 0 == 0)
             (one ((↑(ByteArray.size x3201) : Int)) fun x3346 =>
              br (decide (x3346 > 1400))
                (chk (decide (Int.ofNat (List.length q_l) = Int.ofNat (List.length q_l)) && true && true) <|
                 out (queue_Put q_l q_most x3201) fun r3347 =>
                 un_ls r3347 fun x3348 r3349 =>
                 un_i r3349 fun x3350 r3351 =>
                 un_i r3351 fun x3352 r3353 =>
                 un_nil r3353 <|
                 br (x3352 != 13)
                   (kr [.li (ops0), .ls (ops1), .b (false)])
                   (chk (decide (Int.ofNat (List.length x3348) = Int.ofNat (List.length x3348)) && true && true) <|
                    out (queue_Len x3348 x3350) fun r3354 =>
                    un_i r3354 fun x3355 r3356 =>
                    un_nil r3356 <|
                    one (Int.ofNat (List.length w)) fun x3357 =>
                    br (x3355 != x3357)
                      (kr [.li (ops0), .ls (ops1), .b (false)])
                      (chk (decide (Int.ofNat (List.length x3348) = Int.ofNat (List.length x3348)) && true && true) <|
                       out (queue_Bytes x3348 x3350) fun r3358 =>
                       un_i r3358 fun x3359 r3360 =>
                       un_nil r3360 <|
                       br (x3359 != bytes)
                         (kr [.li (ops0), .ls (ops1), .b (false)])
                         (one (addI .i64 i 1) fun x3361 =>
                          chk (decide (Int.ofNat (List.length x3348) = Int.ofNat (List.length x3348)) && true && true) <|
                          chk (decide (Int.ofNat (List.length w) = Int.ofNat (List.length w)) && (decide (Int.ofNat (List.length ops0) = Int.ofNat (List.length ops0)) && true)) <|
                          again (ops0) (ops1) (x3348) (w) (x3350) (x3361) (bytes) (most) (big)))))
                (one (Int.ofNat (List.length w)) fun x3362 =>
                 br (decide (x3362 ≥ most))
                   (chk (decide (Int.ofNat (List.length q_l) = Int.ofNat (List.length q_l)) && true && true) <|
                    out (queue_Put q_l q_most x3201) fun r3363 =>
                    un_ls r3363 fun x3364 r3365 =>
                    un_i r3365 fun x3366 r3367 =>
                    un_i r3367 fun x3368 r3369 =>
                    un_nil r3369 <|
                    br (x3368 != 9)
                      (kr [.li (ops0), .ls (ops1), .b (false)])
                      (chk (decide (Int.ofNat (List.length x3364) = Int.ofNat (List.length x3364)) && true && true) <|
                       out (queue_Len x3364 x3366) fun r3370 =>
                       un_i r3370 fun x3371 r3372 =>
                       un_nil r3372 <|
                       one (Int.ofNat (List.length w)) fun x3373 =>
                       br (x3371 != x3373)
                         (kr [.li (ops0), .ls (ops1), .b (false)])
                         (chk (decide (Int.ofNat (List.length x3364) = Int.ofNat (List.length x3364)) && true && true) <|
                          out (queue_Bytes x3364 x3366) fun r3374 =>
                          un_i r3374 fun x3375 r3376 =>
                          un_nil r3376 <|
                          br (x3375 != bytes)
                            (kr [.li (ops0), .ls (ops1), .b (false)])
                            (one (addI .i64 i 1) fun x3377 =>
                             chk (decide (Int.ofNat (List.length x3364) = Int.ofNat (List.length x3364)) && true && true) <|
                             chk (decide (Int.ofNat (List.length w) = Int.ofNat (List.length w)) && (decide (Int.ofNat (List.length ops0) = Int.ofNat (List.length ops0)) && true)) <|
                             again (ops0) (ops1) (x3364) (w) (x3366) (x3377) (bytes) (most) (big)))))
                   (chk (decide (Int.ofNat (List.length w) = Int.ofNat (List.length w)) && true && decide ((Int.ofNat (List.length w) + (↑(1 : Nat) : Int)) * (↑(nat_lit 16) : Int) ≤ (140737488355328 : Int) ∧ Int.ofNat (List.length w) + (↑(1 : Nat) : Int) ≤ (4611686018427387904 : Int))) <|
                    one ((↑(ByteArray.size x3201) : Int)) fun x3378 =>
                    one (addI .i64 bytes x3378) fun x3379 =>
                    chk (decide (Int.ofNat (List.length q_l) = Int.ofNat (List.length q_l)) && true && true) <|
                    out (queue_Put q_l q_most x3201) fun r3380 =>
                    un_ls r3380 fun x3381 r3382 =>
                    un_i r3382 fun x3383 r3384 =>
                    un_i r3384 fun x3385 r3386 =>
                    un_nil r3386 <|
                    br (x3385 != 0)
                      (kr [.li (ops0), .ls (ops1), .b (false)])
                      (chk (decide (Int.ofNat (List.length x3381) = Int.ofNat (List.length x3381)) && true && true) <|
                       out (queue_Len x3381 x3383) fun r3387 =>
                       un_i r3387 fun x3388 r3389 =>
                       un_nil r3389 <|
                       one (Int.ofNat (List.length w) + (↑1 : Int)) fun x3390 =>
                       br (x3388 != x3390)
                         (kr [.li (ops0), .ls (ops1), .b (false)])
                         (chk (decide (Int.ofNat (List.length x3381) = Int.ofNat (List.length x3381)) && true && true) <|
                          out (queue_Bytes x3381 x3383) fun r3391 =>
                          un_i r3391 fun x3392 r3393 =>
                          un_nil r3393 <|
                          br (x3392 != x3379)
                            (kr [.li (ops0), .ls (ops1), .b (false)])
                            (one (addI .i64 i 1) fun x3394 =>
                             chk (decide (Int.ofNat (List.length x3381) = Int.ofNat (List.length x3381)) && true && true) <|
                             chk (decide (Int.ofNat (List.length w) + (↑(1 : Nat) : Int) = Int.ofNat (List.length (w ++ [x3201]))) && (decide (Int.ofNat (List.length ops0) = Int.ofNat (List.length ops0)) && true)) <|
                             again (ops0) (ops1) (x3381) (w ++ [x3201]) (x3383) (x3394) (x3379) (most) (big)))))))
             (chk (decide (Int.ofNat (List.length q_l) = Int.ofNat (List.length q_l)) && true && true) <|
              out (queue_First q_l q_most) fun r3395 =>
              un_s r3395 fun x3396 r3397 =>
              un_b r3397 fun x3398 r3399 =>
              un_nil r3399 <|
              chk (decide (Int.ofNat (List.length q_l) = Int.ofNat (List.length q_l)) && true && true) <|
              out (queue_Take q_l q_most) fun r3400 =>
              un_ls r3400 fun x3401 r3402 =>
              un_i r3402 fun x3403 r3404 =>
              un_s r3404 fun x3405 r3406 =>
              un_b r3406 fun x3407 r3408 =>
              un_nil r3408 <|
              one (Int.ofNat (List.length w)) fun x3409 =>
              br (!x3398 == decide (x3409 > 0))
                (kr [.li (ops0), .ls (ops1), .b (false)])
                (br (!x3407 == x3398)
                   (kr [.li (ops0), .ls (ops1), .b (false)])
                   (br (!x3396 == x3405)
                      (kr [.li (ops0), .ls (ops1), .b (false)])
                      (br (x3398)
                         (chk (decide ((0 : Int) ≤ (0 : Int) ∧ (0 : Int) < Int.ofNat (List.length w))) <|
                          chk (decide ((0 : Int) ≤ Int.ofNat (nat_lit 0) ∧ Int.ofNat (nat_lit 0) < Int.ofNat (List.length w))) <|
                          br (!x3405 == List.getD w (Int.toNat (Int.ofNat 0)) ByteArray.empty)
                            (kr [.li (ops0), .ls (ops1), .b (false)])
                            (br (!x3398)
                               (br (!x3405 == { data := #[] })
                                  (kr [.li (ops0), .ls (ops1), .b (false)])
                                  (br (x3398)
                                     (chk (decide ((0 : Int) ≤ (0 : Int) ∧ (0 : Int) < Int.ofNat (List.length w))) <|
                                      chk (decide ((0 : Int) ≤ Int.ofNat (nat_lit 0) ∧ Int.ofNat (nat_lit 0) < Int.ofNat (List.length w))) <|
                                      one ((↑(ByteArray.size (List.getD w (Int.toNat (Int.ofNat 0)) ByteArray.empty)) : Int)) fun x3410 =>
                                      one (subI .i64 bytes x3410) fun x3411 =>
                                      chk (condSl (rlOf [[Col.int .i64 ops0, Col.str ops1], [], [Col.str q_l], [Col.str w]] (3 : Nat)) (Option.some (1 : Int)) Option.none) <|
                                      chk (decide (Int.ofNat (List.length x3401) = Int.ofNat (List.length x3401)) && true && true) <|
                                      out (queue_Len x3401 x3403) fun r3412 =>
                                      un_i r3412 fun x3413 r3414 =>
                                      un_nil r3414 <|
                                      one (lenSl (rlOf [[Col.int .i64 ops0, Col.str ops1], [], [Col.str q_l], [Col.str w]] (3 : Nat)) (Option.some (1 : Int)) Option.none) fun x3415 =>
                                      br (x3413 != x3415)
                                        (kr [.li (ops0), .ls (ops1), .b (false)])
                                        (chk (decide (Int.ofNat (List.length x3401) = Int.ofNat (List.length x3401)) && true && true) <|
                                         out (queue_Bytes x3401 x3403) fun r3416 =>
                                         un_i r3416 fun x3417 r3418 =>
                                         un_nil r3418 <|
                                         br (x3417 != x3411)
                                           (kr [.li (ops0), .ls (ops1), .b (false)])
                                           (one (addI .i64 i 1) fun x3419 =>
                                            chk (decide (Int.ofNat (nat_lit 1) + lenSl (rlOf [[Col.int .i64 ops0, Col.str ops1], [], [Col.str q_l], [Col.str w]] (3 : Nat)) (Option.some (1 : Int)) Option.none ≤ Int.ofNat (List.length w))) <|
                                            chk (decide (Int.ofNat (List.length x3401) = Int.ofNat (List.length x3401)) && true && true) <|
                                            chk (decide (lenSl (rlOf [[Col.int .i64 ops0, Col.str ops1], [], [Col.str q_l], [Col.str w]] (3 : Nat)) (Option.some (1 : Int)) Option.none = Int.ofNat (List.length (List.take (Int.toNat (lenSl (rlOf [[Col.int .i64 ops0, Col.str ops1], [], [Col.str q_l], [Col.str w]] (3 : Nat)) (Option.some (1 : Int)) Option.none)) (List.drop (Int.toNat (Int.ofNat (nat_lit 1))) w)))) && (decide (Int.ofNat (List.length ops0) = Int.ofNat (List.length ops0)) && true)) <|
                                            again (ops0) (ops1) (x3401) (List.take (Int.toNat (lenSl (rlOf [[Col.int .i64 ops0, Col.str ops1], [], [Col.str q_l], [Col.str w]] (3 : Nat)) (Option.some (1 : Int)) Option.none)) (List.drop (Int.toNat (Int.ofNat (nat_lit 1))) w)) (x3403) (x3419) (x3411) (most) (big))))
                                     (chk (decide (Int.ofNat (List.length x3401) = Int.ofNat (List.length x3401)) && true && true) <|
                                      out (queue_Len x3401 x3403) fun r3420 =>
                                      un_i r3420 fun x3421 r3422 =>
                                      un_nil r3422 <|
                                      one (Int.ofNat (List.length w)) fun x3423 =>
                                      br (x3421 != x3423)
                                        (kr [.li (ops0), .ls (ops1), .b (false)])
                                        (chk (decide (Int.ofNat (List.length x3401) = Int.ofNat (List.length x3401)) && true && true) <|
                                         out (queue_Bytes x3401 x3403) fun r3424 =>
                                         un_i r3424 fun x3425 r3426 =>
                                         un_nil r3426 <|
                                         br (x3425 != bytes)
                                           (kr [.li (ops0), .ls (ops1), .b (false)])
                                           (one (addI .i64 i 1) fun x3427 =>
                                            chk (decide (Int.ofNat (List.length x3401) = Int.ofNat (List.length x3401)) && true && true) <|
                                            chk (decide (Int.ofNat (List.length w) = Int.ofNat (List.length w)) && (decide (Int.ofNat (List.length ops0) = Int.ofNat (List.length ops0)) && true)) <|
                                            again (ops0) (ops1) (x3401) (w) (x3403) (x3427) (bytes) (most) (big))))))
                               (br (x3398)
                                  (chk (decide ((0 : Int) ≤ (0 : Int) ∧ (0 : Int) < Int.ofNat (List.length w))) <|
                                   chk (decide ((0 : Int) ≤ Int.ofNat (nat_lit 0) ∧ Int.ofNat (nat_lit 0) < Int.ofNat (List.length w))) <|
                                   one ((↑(ByteArray.size (List.getD w (Int.toNat (Int.ofNat 0)) ByteArray.empty)) : Int)) fun x3428 =>
                                   one (subI .i64 bytes x3428) fun x3429 =>
                                   chk (condSl (rlOf [[Col.int .i64 ops0, Col.str ops1], [], [Col.str q_l], [Col.str w]] (3 : Nat)) (Option.some (1 : Int)) Option.none) <|
                                   chk (decide (Int.ofNat (List.length x3401) = Int.ofNat (List.length x3401)) && true && true) <|
                                   out (queue_Len x3401 x3403) fun r3430 =>
                                   un_i r3430 fun x3431 r3432 =>
                                   un_nil r3432 <|
                                   one (lenSl (rlOf [[Col.int .i64 ops0, Col.str ops1], [], [Col.str q_l], [Col.str w]] (3 : Nat)) (Option.some (1 : Int)) Option.none) fun x3433 =>
                                   br (x3431 != x3433)
                                     (kr [.li (ops0), .ls (ops1), .b (false)])
                                     (chk (decide (Int.ofNat (List.length x3401) = Int.ofNat (List.length x3401)) && true && true) <|
                                      out (queue_Bytes x3401 x3403) fun r3434 =>
                                      un_i r3434 fun x3435 r3436 =>
                                      un_nil r3436 <|
                                      br (x3435 != x3429)
                                        (kr [.li (ops0), .ls (ops1), .b (false)])
                                        (one (addI .i64 i 1) fun x3437 =>
                                         chk (decide (Int.ofNat (nat_lit 1) + lenSl (rlOf [[Col.int .i64 ops0, Col.str ops1], [], [Col.str q_l], [Col.str w]] (3 : Nat)) (Option.some (1 : Int)) Option.none ≤ Int.ofNat (List.length w))) <|
                                         chk (decide (Int.ofNat (List.length x3401) = Int.ofNat (List.length x3401)) && true && true) <|
                                         chk (decide (lenSl (rlOf [[Col.int .i64 ops0, Col.str ops1], [], [Col.str q_l], [Col.str w]] (3 : Nat)) (Option.some (1 : Int)) Option.none = Int.ofNat (List.length (List.take (Int.toNat (lenSl (rlOf [[Col.int .i64 ops0, Col.str ops1], [], [Col.str q_l], [Col.str w]] (3 : Nat)) (Option.some (1 : Int)) Option.none)) (List.drop (Int.toNat (Int.ofNat (nat_lit 1))) w)))) && (decide (Int.ofNat (List.length ops0) = Int.ofNat (List.length ops0)) && true)) <|
                                         again (ops0) (ops1) (x3401) (List.take (Int.toNat (lenSl (rlOf [[Col.int .i64 ops0, Col.str ops1], [], [Col.str q_l], [Col.str w]] (3 : Nat)) (Option.some (1 : Int)) Option.none)) (List.drop (Int.toNat (Int.ofNat (nat_lit 1))) w)) (x3403) (x3437) (x3429) (most) (big))))
                                  (chk (decide (Int.ofNat (List.length x3401) = Int.ofNat (List.length x3401)) && true && true) <|
                                   out (queue_Len x3401 x3403) fun r3438 =>
                                   un_i r3438 fun x3439 r3440 =>
                                   un_nil r3440 <|
                                   one (Int.ofNat (List.length w)) fun x3441 =>
                                   br (x3439 != x3441)
                                     (kr [.li (ops0), .ls (ops1), .b (false)])
                                     (chk (decide (Int.ofNat (List.length x3401) = Int.ofNat (List.length x3401)) && true && true) <|
                                      out (queue_Bytes x3401 x3403) fun r3442 =>
                                      un_i r3442 fun x3443 r3444 =>
                                      un_nil r3444 <|
                                      br (x3443 != bytes)
                                        (kr [.li (ops0), .ls (ops1), .b (false)])
                                        (one (addI .i64 i 1) fun x3445 =>
                                         chk (decide (Int.ofNat (List.length x3401) = Int.ofNat (List.length x3401)) && true && true) <|
                                         chk (decide (Int.ofNat (List.length w) = Int.ofNat (List.length w)) && (decide (Int.ofNat (List.length ops0) = Int.ofNat (List.length ops0)) && true)) <|
                                         again (ops0) (ops1) (x3401) (w) (x3403) (x3445) (bytes) (most) (big)))))))
                         (br (!x3398)
                            (br (!x3405 == { data := #[] })
                               (kr [.li (ops0), .ls (ops1), .b (false)])
                               (br (x3398)
                                  (chk (decide ((0 : Int) ≤ (0 : Int) ∧ (0 : Int) < Int.ofNat (List.length w))) <|
                                   chk (decide ((0 : Int) ≤ Int.ofNat (nat_lit 0) ∧ Int.ofNat (nat_lit 0) < Int.ofNat (List.length w))) <|
                                   one ((↑(ByteArray.size (List.getD w (Int.toNat (Int.ofNat 0)) ByteArray.empty)) : Int)) fun x3446 =>
                                   one (subI .i64 bytes x3446) fun x3447 =>
                                   chk (condSl (rlOf [[Col.int .i64 ops0, Col.str ops1], [], [Col.str q_l], [Col.str w]] (3 : Nat)) (Option.some (1 : Int)) Option.none) <|
                                   chk (decide (Int.ofNat (List.length x3401) = Int.ofNat (List.length x3401)) && true && true) <|
                                   out (queue_Len x3401 x3403) fun r3448 =>
                                   un_i r3448 fun x3449 r3450 =>
                                   un_nil r3450 <|
                                   one (lenSl (rlOf [[Col.int .i64 ops0, Col.str ops1], [], [Col.str q_l], [Col.str w]] (3 : Nat)) (Option.some (1 : Int)) Option.none) fun x3451 =>
                                   br (x3449 != x3451)
                                     (kr [.li (ops0), .ls (ops1), .b (false)])
                                     (chk (decide (Int.ofNat (List.length x3401) = Int.ofNat (List.length x3401)) && true && true) <|
                                      out (queue_Bytes x3401 x3403) fun r3452 =>
                                      un_i r3452 fun x3453 r3454 =>
                                      un_nil r3454 <|
                                      br (x3453 != x3447)
                                        (kr [.li (ops0), .ls (ops1), .b (false)])
                                        (one (addI .i64 i 1) fun x3455 =>
                                         chk (decide (Int.ofNat (nat_lit 1) + lenSl (rlOf [[Col.int .i64 ops0, Col.str ops1], [], [Col.str q_l], [Col.str w]] (3 : Nat)) (Option.some (1 : Int)) Option.none ≤ Int.ofNat (List.length w))) <|
                                         chk (decide (Int.ofNat (List.length x3401) = Int.ofNat (List.length x3401)) && true && true) <|
                                         chk (decide (lenSl (rlOf [[Col.int .i64 ops0, Col.str ops1], [], [Col.str q_l], [Col.str w]] (3 : Nat)) (Option.some (1 : Int)) Option.none = Int.ofNat (List.length (List.take (Int.toNat (lenSl (rlOf [[Col.int .i64 ops0, Col.str ops1], [], [Col.str q_l], [Col.str w]] (3 : Nat)) (Option.some (1 : Int)) Option.none)) (List.drop (Int.toNat (Int.ofNat (nat_lit 1))) w)))) && (decide (Int.ofNat (List.length ops0) = Int.ofNat (List.length ops0)) && true)) <|
                                         again (ops0) (ops1) (x3401) (List.take (Int.toNat (lenSl (rlOf [[Col.int .i64 ops0, Col.str ops1], [], [Col.str q_l], [Col.str w]] (3 : Nat)) (Option.some (1 : Int)) Option.none)) (List.drop (Int.toNat (Int.ofNat (nat_lit 1))) w)) (x3403) (x3455) (x3447) (most) (big))))
                                  (chk (decide (Int.ofNat (List.length x3401) = Int.ofNat (List.length x3401)) && true && true) <|
                                   out (queue_Len x3401 x3403) fun r3456 =>
                                   un_i r3456 fun x3457 r3458 =>
                                   un_nil r3458 <|
                                   one (Int.ofNat (List.length w)) fun x3459 =>
                                   br (x3457 != x3459)
                                     (kr [.li (ops0), .ls (ops1), .b (false)])
                                     (chk (decide (Int.ofNat (List.length x3401) = Int.ofNat (List.length x3401)) && true && true) <|
                                      out (queue_Bytes x3401 x3403) fun r3460 =>
                                      un_i r3460 fun x3461 r3462 =>
                                      un_nil r3462 <|
                                      br (x3461 != bytes)
                                        (kr [.li (ops0), .ls (ops1), .b (false)])
                                        (one (addI .i64 i 1) fun x3463 =>
                                         chk (decide (Int.ofNat (List.length x3401) = Int.ofNat (List.length x3401)) && true && true) <|
                                         chk (decide (Int.ofNat (List.length w) = Int.ofNat (List.length w)) && (decide (Int.ofNat (List.length ops0) = Int.ofNat (List.length ops0)) && true)) <|
                                         again (ops0) (ops1) (x3401) (w) (x3403) (x3463) (bytes) (most) (big))))))
                            (br (x3398)
                               (chk (decide ((0 : Int) ≤ (0 : Int) ∧ (0 : Int) < Int.ofNat (List.length w))) <|
                                chk (decide ((0 : Int) ≤ Int.ofNat (nat_lit 0) ∧ Int.ofNat (nat_lit 0) < Int.ofNat (List.length w))) <|
                                one ((↑(ByteArray.size (List.getD w (Int.toNat (Int.ofNat 0)) ByteArray.empty)) : Int)) fun x3464 =>
                                one (subI .i64 bytes x3464) fun x3465 =>
                                chk (condSl (rlOf [[Col.int .i64 ops0, Col.str ops1], [], [Col.str q_l], [Col.str w]] (3 : Nat)) (Option.some (1 : Int)) Option.none) <|
                                chk (decide (Int.ofNat (List.length x3401) = Int.ofNat (List.length x3401)) && true && true) <|
                                out (queue_Len x3401 x3403) fun r3466 =>
                                un_i r3466 fun x3467 r3468 =>
                                un_nil r3468 <|
                                one (lenSl (rlOf [[Col.int .i64 ops0, Col.str ops1], [], [Col.str q_l], [Col.str w]] (3 : Nat)) (Option.some (1 : Int)) Option.none) fun x3469 =>
                                br (x3467 != x3469)
                                  (kr [.li (ops0), .ls (ops1), .b (false)])
                                  (chk (decide (Int.ofNat (List.length x3401) = Int.ofNat (List.length x3401)) && true && true) <|
                                   out (queue_Bytes x3401 x3403) fun r3470 =>
                                   un_i r3470 fun x3471 r3472 =>
                                   un_nil r3472 <|
                                   br (x3471 != x3465)
                                     (kr [.li (ops0), .ls (ops1), .b (false)])
                                     (one (addI .i64 i 1) fun x3473 =>
                                      chk (decide (Int.ofNat (nat_lit 1) + lenSl (rlOf [[Col.int .i64 ops0, Col.str ops1], [], [Col.str q_l], [Col.str w]] (3 : Nat)) (Option.some (1 : Int)) Option.none ≤ Int.ofNat (List.length w))) <|
                                      chk (decide (Int.ofNat (List.length x3401) = Int.ofNat (List.length x3401)) && true && true) <|
                                      chk (decide (lenSl (rlOf [[Col.int .i64 ops0, Col.str ops1], [], [Col.str q_l], [Col.str w]] (3 : Nat)) (Option.some (1 : Int)) Option.none = Int.ofNat (List.length (List.take (Int.toNat (lenSl (rlOf [[Col.int .i64 ops0, Col.str ops1], [], [Col.str q_l], [Col.str w]] (3 : Nat)) (Option.some (1 : Int)) Option.none)) (List.drop (Int.toNat (Int.ofNat (nat_lit 1))) w)))) && (decide (Int.ofNat (List.length ops0) = Int.ofNat (List.length ops0)) && true)) <|
                                      again (ops0) (ops1) (x3401) (List.take (Int.toNat (lenSl (rlOf [[Col.int .i64 ops0, Col.str ops1], [], [Col.str q_l], [Col.str w]] (3 : Nat)) (Option.some (1 : Int)) Option.none)) (List.drop (Int.toNat (Int.ofNat (nat_lit 1))) w)) (x3403) (x3473) (x3465) (most) (big))))
                               (chk (decide (Int.ofNat (List.length x3401) = Int.ofNat (List.length x3401)) && true && true) <|
                                out (queue_Len x3401 x3403) fun r3474 =>
                                un_i r3474 fun x3475 r3476 =>
                                un_nil r3476 <|
                                one (Int.ofNat (List.length w)) fun x3477 =>
                                br (x3475 != x3477)
                                  (kr [.li (ops0), .ls (ops1), .b (false)])
                                  (chk (decide (Int.ofNat (List.length x3401) = Int.ofNat (List.length x3401)) && true && true) <|
                                   out (queue_Bytes x3401 x3403) fun r3478 =>
                                   un_i r3478 fun x3479 r3480 =>
                                   un_nil r3480 <|
                                   br (x3479 != bytes)
                                     (kr [.li (ops0), .ls (ops1), .b (false)])
                                     (one (addI .i64 i 1) fun x3481 =>
                                      chk (decide (Int.ofNat (List.length x3401) = Int.ofNat (List.length x3401)) && true && true) <|
                                      chk (decide (Int.ofNat (List.length w) = Int.ofNat (List.length w)) && (decide (Int.ofNat (List.length ops0) = Int.ofNat (List.length ops0)) && true)) <|
                                      again (ops0) (ops1) (x3401) (w) (x3403) (x3481) (bytes) (most) (big))))))))))))
       (kx 0 [.li (ops0), .ls (ops1)]))
    (kx 0 [.li (ops0), .ls (ops1)])
def QueueAll_10_L {α : Type} (kx : Nat → List Leaf → Option α) (kr : List Leaf → Option α) : Nat → List Int → List ByteArray → List ByteArray → List ByteArray → Int → Int → Int → Int → Int → Option α
  | 0, _, _, _, _, _, _, _, _, _ => none
  | n + 1, ops0, ops1, q_l, w, q_most, i, bytes, most, big => QueueAll_10_B  kx kr (QueueAll_10_L kx kr n) ops0 ops1 q_l w q_most i bytes most big
def QueueAll_10_F (L10 : ({β : Type} → (Nat → List Leaf → Option β) → (List Leaf → Option β) → Nat → List Int → List ByteArray → List ByteArray → List ByteArray → Int → Int → Int → Int → Int → Option β)) {α : Type} (n : Nat) (ls : List Leaf) (kx : Nat → List Leaf → Option α) (kr : List Leaf → Option α) : Option α := un_li ls fun ops0 rr => un_ls rr fun ops1 rr => un_ls rr fun q_l rr => un_ls rr fun w rr => un_i rr fun q_most rr => un_i rr fun i rr => un_i rr fun bytes rr => un_i rr fun most rr => un_i rr fun big rr => un_nil rr (L10 kx kr n ops0 ops1 q_l w q_most i bytes most big)
def QueueAll_d (L10 : ({β : Type} → (Nat → List Leaf → Option β) → (List Leaf → Option β) → Nat → List Int → List ByteArray → List ByteArray → List ByteArray → Int → Int → Int → Int → Int → Option β)) (ops0 : List Int) (ops1 : List ByteArray) (most : Int) (big : Int) : Option (List Leaf) :=
  br (decide (most < 1))
    (br (decide (most < 1))
       (some [.b (true)])
       (br (decide (most > 50))
          (some [.b (true)])
          (none)))
    (br (decide (most > 50))
       (br (decide (most < 1))
          (some [.b (true)])
          (br (decide (most > 50))
             (some [.b (true)])
             (none)))
       (br (decide (most < 1))
          (some [.b (false)])
          (br (decide (most > 50))
             (some [.b (false)])
             (chk (decide ((0 : Int) = Int.ofNat (0 : Nat)) && true && true) <|
              chk (decide ((0 : Int) = Int.ofNat (0 : Nat)) && (decide (Int.ofNat (List.length ops0) = Int.ofNat (List.length ops0)) && true)) <|
              L10
                (fun i3482 r3483 =>
                 br (Nat.beq 0 i3482)
                   (un_li r3483 fun x3484 r3485 =>
                    un_ls r3485 fun x3486 r3487 =>
                    un_nil r3487 <|
                    some [.b (true)])
                   (none))
                (fun r3488 =>
                 un_li r3488 fun x3489 r3490 =>
                 un_ls r3490 fun x3491 r3492 =>
                 un_b r3492 fun x3493 r3494 =>
                 un_nil r3494 <|
                 some [.b (x3493)])
                top (ops0) (ops1) ([]) ([]) (most) (0) (0) (most) (big)))))
def QueueAll (ops0 : List Int) (ops1 : List ByteArray) (most : Int) (big : Int) : Option (List Leaf) := QueueAll_d @QueueAll_10_L ops0 ops1 most big
end Go.Sx.T

