import Derived.Test.YtllgbgponmkijaaGreatDoorYQueSpec
set_option linter.all false
namespace Go.Sx.T
open Go Go.Sx
def law1_Text (s : ByteArray) (n2 : Int) : Option (List Leaf) :=
  one ((↑(ByteArray.size s) : Int)) fun x2902 =>
  one (minI x2902 n2) fun x2903 =>
  chk (condSl (↑(ByteArray.size s) : Int) Option.none (Option.some x2903)) <|
  some [.s (strSlO s Option.none (Option.some x2903))]
def QueueAll_10_B  {α : Type} (kx : Nat → List Leaf → Option α) (kr : List Leaf → Option α) (again : List Int → List ByteArray → List ByteArray → List ByteArray → Int → Int → Int → Int → Int → Option α) (ops0 : List Int) (ops1 : List ByteArray) (q_l : List ByteArray) (w : List ByteArray) (q_most : Int) (i : Int) (bytes : Int) (most : Int) (big : Int) : Option α :=
  one (Int.ofNat (List.length ops0)) fun x3187 =>
  br (decide (i < x3187))
    (br (decide (i < 60))
       (chk (decide ((0 : Int) ≤ i ∧ i < Int.ofNat (List.length ops0))) <|
        chk (decide ((0 : Int) ≤ i ∧ i < Int.ofNat (List.length ops0))) <|
        out (law1_Text (List.getD ops1 (Int.toNat i) ByteArray.empty) 30) fun r3188 =>
        un_s r3188 fun x3189 r3190 =>
        un_nil r3190 <|
        one (remI .i64 big 60) fun x3191 =>
        one (addI .i64 x3191 60) fun x3192 =>
        one (remI .i64 x3192 60) fun x3193 =>
        br (i == x3193)
          (one (remI .i64 big 10) fun x3194 =>
           one (addI .i64 x3194 10) fun x3195 =>
           one (remI .i64 x3195 10) fun x3196 =>
           one (addI .i64 1395 x3196) fun x3197 =>
           chk (decide ((0 : Int) ≤ x3197 ∧ x3197 ≤ x3197 ∧ (↑(nat_lit 1) : Int) * x3197 ≤ (140737488355328 : Int) ∧ x3197 ≤ (4611686018427387904 : Int))) <|
           chk (rowIn Option.none x3197 x3197) <|
           chk (decide ((0 : Int) ≤ i ∧ i < Int.ofNat (List.length ops0))) <|
           chk (decide ((0 : Int) ≤ i ∧ i < Int.ofNat (List.length ops0))) <|
           br (List.getD ops0 (Int.toNat i) 0 == 0)
             (one ((↑(ByteArray.size (strOfI (partL Option.none x3197 (List.replicate (Int.toNat x3197) 0)))) : Int)) fun x3198 =>
              br (decide (x3198 > 1400))
                (chk (decide (Int.ofNat (List.length q_l) = Int.ofNat (List.length q_l)) && true && true) <|
                 out (queue_Put q_l q_most (strOfI (partL Option.none x3197 (List.replicate (Int.toNat x3197) 0)))) fun r3199 =>
                 un_ls r3199 fun x3200 r3201 =>
                 un_i r3201 fun x3202 r3203 =>
                 un_i r3203 fun x3204 r3205 =>
                 un_nil r3205 <|
                 br (x3204 != 13)
                   (kr [.li (ops0), .ls (ops1), .b (false)])
                   (chk (decide (Int.ofNat (List.length x3200) = Int.ofNat (List.length x3200)) && true && true) <|
                    out (queue_Len x3200 x3202) fun r3206 =>
                    un_i r3206 fun x3207 r3208 =>
                    un_nil r3208 <|
                    one (Int.ofNat (List.length w)) fun x3209 =>
                    br (x3207 != x3209)
                      (kr [.li (ops0), .ls (ops1), .b (false)])
                      (chk (decide (Int.ofNat (List.length x3200) = Int.ofNat (List.length x3200)) && true && true) <|
                       out (queue_Bytes x3200 x3202) fun r3210 =>
                       un_i r3210 fun x3211 r3212 =>
                       un_nil r3212 <|
                       br (x3211 != bytes)
                         (kr [.li (ops0), .ls (ops1), .b (false)])
                         (one (addI .i64 i 1) fun x3213 =>
                          chk (decide (Int.ofNat (List.length x3200) = Int.ofNat (List.length x3200)) && true && true) <|
                          chk (decide (Int.ofNat (List.length w) = Int.ofNat (List.length w)) && (decide (Int.ofNat (List.length ops0) = Int.ofNat (List.length ops0)) && true)) <|
                          again (ops0) (ops1) (x3200) (w) (x3202) (x3213) (bytes) (most) (big)))))
                (one (Int.ofNat (List.length w)) fun x3214 =>
                 br (decide (x3214 ≥ most))
                   (chk (decide (Int.ofNat (List.length q_l) = Int.ofNat (List.length q_l)) && true && true) <|
                    out (queue_Put q_l q_most (strOfI (partL Option.none x3197 (List.replicate (Int.toNat x3197) 0)))) fun r3215 =>
                    un_ls r3215 fun x3216 r3217 =>
                    un_i r3217 fun x3218 r3219 =>
                    un_i r3219 fun x3220 r3221 =>
                    un_nil r3221 <|
                    br (x3220 != 9)
                      (kr [.li (ops0), .ls (ops1), .b (false)])
                      (chk (decide (Int.ofNat (List.length x3216) = Int.ofNat (List.length x3216)) && true && true) <|
                       out (queue_Len x3216 x3218) fun r3222 =>
                       un_i r3222 fun x3223 r3224 =>
                       un_nil r3224 <|
                       one (Int.ofNat (List.length w)) fun x3225 =>
                       br (x3223 != x3225)
                         (kr [.li (ops0), .ls (ops1), .b (false)])
                         (chk (decide (Int.ofNat (List.length x3216) = Int.ofNat (List.length x3216)) && true && true) <|
                          out (queue_Bytes x3216 x3218) fun r3226 =>
                          un_i r3226 fun x3227 r3228 =>
                          un_nil r3228 <|
                          br (x3227 != bytes)
                            (kr [.li (ops0), .ls (ops1), .b (false)])
                            (one (addI .i64 i 1) fun x3229 =>
                             chk (decide (Int.ofNat (List.length x3216) = Int.ofNat (List.length x3216)) && true && true) <|
                             chk (decide (Int.ofNat (List.length w) = Int.ofNat (List.length w)) && (decide (Int.ofNat (List.length ops0) = Int.ofNat (List.length ops0)) && true)) <|
                             again (ops0) (ops1) (x3216) (w) (x3218) (x3229) (bytes) (most) (big)))))
                   (chk (decide (Int.ofNat (List.length w) = Int.ofNat (List.length w)) && true && decide ((Int.ofNat (List.length w) + (↑(1 : Nat) : Int)) * (↑(nat_lit 16) : Int) ≤ (140737488355328 : Int) ∧ Int.ofNat (List.length w) + (↑(1 : Nat) : Int) ≤ (4611686018427387904 : Int))) <|
                    one ((↑(ByteArray.size (strOfI (partL Option.none x3197 (List.replicate (Int.toNat x3197) 0)))) : Int)) fun x3230 =>
                    one (addI .i64 bytes x3230) fun x3231 =>
                    chk (decide (Int.ofNat (List.length q_l) = Int.ofNat (List.length q_l)) && true && true) <|
                    out (queue_Put q_l q_most (strOfI (partL Option.none x3197 (List.replicate (Int.toNat x3197) 0)))) fun r3232 =>
                    un_ls r3232 fun x3233 r3234 =>
                    un_i r3234 fun x3235 r3236 =>
                    un_i r3236 fun x3237 r3238 =>
                    un_nil r3238 <|
                    br (x3237 != 0)
                      (kr [.li (ops0), .ls (ops1), .b (false)])
                      (chk (decide (Int.ofNat (List.length x3233) = Int.ofNat (List.length x3233)) && true && true) <|
                       out (queue_Len x3233 x3235) fun r3239 =>
                       un_i r3239 fun x3240 r3241 =>
                       un_nil r3241 <|
                       one (Int.ofNat (List.length w) + (↑1 : Int)) fun x3242 =>
                       br (x3240 != x3242)
                         (kr [.li (ops0), .ls (ops1), .b (false)])
                         (chk (decide (Int.ofNat (List.length x3233) = Int.ofNat (List.length x3233)) && true && true) <|
                          out (queue_Bytes x3233 x3235) fun r3243 =>
                          un_i r3243 fun x3244 r3245 =>
                          un_nil r3245 <|
                          br (x3244 != x3231)
                            (kr [.li (ops0), .ls (ops1), .b (false)])
                            (one (addI .i64 i 1) fun x3246 =>
                             chk (decide (Int.ofNat (List.length x3233) = Int.ofNat (List.length x3233)) && true && true) <|
                             chk (decide (Int.ofNat (List.length w) + (↑(1 : Nat) : Int) = Int.ofNat (List.length (w ++ [strOfI (partL Option.none x3197 (List.replicate (Int.toNat x3197) (0 : Int)))]))) && (decide (Int.ofNat (List.length ops0) = Int.ofNat (List.length ops0)) && true)) <|
                             again (ops0) (ops1) (x3233) (w ++ [strOfI (partL Option.none x3197 (List.replicate (Int.toNat x3197) (0 : Int)))]) (x3235) (x3246) (x3231) (most) (big)))))))
             (chk (decide (Int.ofNat (List.length q_l) = Int.ofNat (List.length q_l)) && true && true) <|
              out (queue_First q_l q_most) fun r3247 =>
              un_s r3247 fun x3248 r3249 =>
              un_b r3249 fun x3250 r3251 =>
              un_nil r3251 <|
              chk (decide (Int.ofNat (List.length q_l) = Int.ofNat (List.length q_l)) && true && true) <|
              out (queue_Take q_l q_most) fun r3252 =>
              un_ls r3252 fun x3253 r3254 =>
              un_i r3254 fun x3255 r3256 =>
              un_s r3256 fun x3257 r3258 =>
              un_b r3258 fun x3259 r3260 =>
              un_nil r3260 <|
              one (Int.ofNat (List.length w)) fun x3261 =>
              br (!x3250 == decide (x3261 > 0))
                (kr [.li (ops0), .ls (ops1), .b (false)])
                (br (!x3259 == x3250)
                   (kr [.li (ops0), .ls (ops1), .b (false)])
                   (br (!x3248 == x3257)
                      (kr [.li (ops0), .ls (ops1), .b (false)])
                      (br (x3250)
                         (chk (decide ((0 : Int) ≤ (0 : Int) ∧ (0 : Int) < Int.ofNat (List.length w))) <|
                          chk (decide ((0 : Int) ≤ Int.ofNat (nat_lit 0) ∧ Int.ofNat (nat_lit 0) < Int.ofNat (List.length w))) <|
                          br (!x3257 == List.getD w (Int.toNat (Int.ofNat 0)) ByteArray.empty)
                            (kr [.li (ops0), .ls (ops1), .b (false)])
                            (br (!x3250)
                               (br (!x3257 == { data := #[] })
                                  (kr [.li (ops0), .ls (ops1), .b (false)])
                                  (br (x3250)
                                     (chk (decide ((0 : Int) ≤ (0 : Int) ∧ (0 : Int) < Int.ofNat (List.length w))) <|
                                      chk (decide ((0 : Int) ≤ Int.ofNat (nat_lit 0) ∧ Int.ofNat (nat_lit 0) < Int.ofNat (List.length w))) <|
                                      one ((↑(ByteArray.size (List.getD w (Int.toNat (Int.ofNat 0)) ByteArray.empty)) : Int)) fun x3262 =>
                                      one (subI .i64 bytes x3262) fun x3263 =>
                                      chk (condSl (rlOf [[Col.int .i64 ops0, Col.str ops1], [], [Col.str q_l], [Col.str w]] (3 : Nat)) (Option.some (1 : Int)) Option.none) <|
                                      chk (decide (Int.ofNat (List.length x3253) = Int.ofNat (List.length x3253)) && true && true) <|
                                      out (queue_Len x3253 x3255) fun r3264 =>
                                      un_i r3264 fun x3265 r3266 =>
                                      un_nil r3266 <|
                                      one (lenSl (rlOf [[Col.int .i64 ops0, Col.str ops1], [], [Col.str q_l], [Col.str w]] (3 : Nat)) (Option.some (1 : Int)) Option.none) fun x3267 =>
                                      br (x3265 != x3267)
                                        (kr [.li (ops0), .ls (ops1), .b (false)])
                                        (chk (decide (Int.ofNat (List.length x3253) = Int.ofNat (List.length x3253)) && true && true) <|
                                         out (queue_Bytes x3253 x3255) fun r3268 =>
                                         un_i r3268 fun x3269 r3270 =>
                                         un_nil r3270 <|
                                         br (x3269 != x3263)
                                           (kr [.li (ops0), .ls (ops1), .b (false)])
                                           (one (addI .i64 i 1) fun x3271 =>
                                            chk (decide (Int.ofNat (nat_lit 1) + lenSl (rlOf [[Col.int .i64 ops0, Col.str ops1], [], [Col.str q_l], [Col.str w]] (3 : Nat)) (Option.some (1 : Int)) Option.none ≤ Int.ofNat (List.length w))) <|
                                            chk (decide (Int.ofNat (List.length x3253) = Int.ofNat (List.length x3253)) && true && true) <|
                                            chk (decide (lenSl (rlOf [[Col.int .i64 ops0, Col.str ops1], [], [Col.str q_l], [Col.str w]] (3 : Nat)) (Option.some (1 : Int)) Option.none = Int.ofNat (List.length (List.take (Int.toNat (lenSl (rlOf [[Col.int .i64 ops0, Col.str ops1], [], [Col.str q_l], [Col.str w]] (3 : Nat)) (Option.some (1 : Int)) Option.none)) (List.drop (Int.toNat (Int.ofNat (nat_lit 1))) w)))) && (decide (Int.ofNat (List.length ops0) = Int.ofNat (List.length ops0)) && true)) <|
                                            again (ops0) (ops1) (x3253) (List.take (Int.toNat (lenSl (rlOf [[Col.int .i64 ops0, Col.str ops1], [], [Col.str q_l], [Col.str w]] (3 : Nat)) (Option.some (1 : Int)) Option.none)) (List.drop (Int.toNat (Int.ofNat (nat_lit 1))) w)) (x3255) (x3271) (x3263) (most) (big))))
                                     (chk (decide (Int.ofNat (List.length x3253) = Int.ofNat (List.length x3253)) && true && true) <|
                                      out (queue_Len x3253 x3255) fun r3272 =>
                                      un_i r3272 fun x3273 r3274 =>
                                      un_nil r3274 <|
                                      one (Int.ofNat (List.length w)) fun x3275 =>
                                      br (x3273 != x3275)
                                        (kr [.li (ops0), .ls (ops1), .b (false)])
                                        (chk (decide (Int.ofNat (List.length x3253) = Int.ofNat (List.length x3253)) && true && true) <|
                                         out (queue_Bytes x3253 x3255) fun r3276 =>
                                         un_i r3276 fun x3277 r3278 =>
                                         un_nil r3278 <|
                                         br (x3277 != bytes)
                                           (kr [.li (ops0), .ls (ops1), .b (false)])
                                           (one (addI .i64 i 1) fun x3279 =>
                                            chk (decide (Int.ofNat (List.length x3253) = Int.ofNat (List.length x3253)) && true && true) <|
                                            chk (decide (Int.ofNat (List.length w) = Int.ofNat (List.length w)) && (decide (Int.ofNat (List.length ops0) = Int.ofNat (List.length ops0)) && true)) <|
                                            again (ops0) (ops1) (x3253) (w) (x3255) (x3279) (bytes) (most) (big))))))
                               (br (x3250)
                                  (chk (decide ((0 : Int) ≤ (0 : Int) ∧ (0 : Int) < Int.ofNat (List.length w))) <|
                                   chk (decide ((0 : Int) ≤ Int.ofNat (nat_lit 0) ∧ Int.ofNat (nat_lit 0) < Int.ofNat (List.length w))) <|
                                   one ((↑(ByteArray.size (List.getD w (Int.toNat (Int.ofNat 0)) ByteArray.empty)) : Int)) fun x3280 =>
                                   one (subI .i64 bytes x3280) fun x3281 =>
                                   chk (condSl (rlOf [[Col.int .i64 ops0, Col.str ops1], [], [Col.str q_l], [Col.str w]] (3 : Nat)) (Option.some (1 : Int)) Option.none) <|
                                   chk (decide (Int.ofNat (List.length x3253) = Int.ofNat (List.length x3253)) && true && true) <|
                                   out (queue_Len x3253 x3255) fun r3282 =>
                                   un_i r3282 fun x3283 r3284 =>
                                   un_nil r3284 <|
                                   one (lenSl (rlOf [[Col.int .i64 ops0, Col.str ops1], [], [Col.str q_l], [Col.str w]] (3 : Nat)) (Option.some (1 : Int)) Option.none) fun x3285 =>
                                   br (x3283 != x3285)
                                     (kr [.li (ops0), .ls (ops1), .b (false)])
                                     (chk (decide (Int.ofNat (List.length x3253) = Int.ofNat (List.length x3253)) && true && true) <|
                                      out (queue_Bytes x3253 x3255) fun r3286 =>
                                      un_i r3286 fun x3287 r3288 =>
                                      un_nil r3288 <|
                                      br (x3287 != x3281)
                                        (kr [.li (ops0), .ls (ops1), .b (false)])
                                        (one (addI .i64 i 1) fun x3289 =>
                                         chk (decide (Int.ofNat (nat_lit 1) + lenSl (rlOf [[Col.int .i64 ops0, Col.str ops1], [], [Col.str q_l], [Col.str w]] (3 : Nat)) (Option.some (1 : Int)) Option.none ≤ Int.ofNat (List.length w))) <|
                                         chk (decide (Int.ofNat (List.length x3253) = Int.ofNat (List.length x3253)) && true && true) <|
                                         chk (decide (lenSl (rlOf [[Col.int .i64 ops0, Col.str ops1], [], [Col.str q_l], [Col.str w]] (3 : Nat)) (Option.some (1 : Int)) Option.none = Int.ofNat (List.length (List.take (Int.toNat (lenSl (rlOf [[Col.int .i64 ops0, Col.str ops1], [], [Col.str q_l], [Col.str w]] (3 : Nat)) (Option.some (1 : Int)) Option.none)) (List.drop (Int.toNat (Int.ofNat (nat_lit 1))) w)))) && (decide (Int.ofNat (List.length ops0) = Int.ofNat (List.length ops0)) && true)) <|
                                         again (ops0) (ops1) (x3253) (List.take (Int.toNat (lenSl (rlOf [[Col.int .i64 ops0, Col.str ops1], [], [Col.str q_l], [Col.str w]] (3 : Nat)) (Option.some (1 : Int)) Option.none)) (List.drop (Int.toNat (Int.ofNat (nat_lit 1))) w)) (x3255) (x3289) (x3281) (most) (big))))
                                  (chk (decide (Int.ofNat (List.length x3253) = Int.ofNat (List.length x3253)) && true && true) <|
                                   out (queue_Len x3253 x3255) fun r3290 =>
                                   un_i r3290 fun x3291 r3292 =>
                                   un_nil r3292 <|
                                   one (Int.ofNat (List.length w)) fun x3293 =>
                                   br (x3291 != x3293)
                                     (kr [.li (ops0), .ls (ops1), .b (false)])
                                     (chk (decide (Int.ofNat (List.length x3253) = Int.ofNat (List.length x3253)) && true && true) <|
                                      out (queue_Bytes x3253 x3255) fun r3294 =>
                                      un_i r3294 fun x3295 r3296 =>
                                      un_nil r3296 <|
                                      br (x3295 != bytes)
                                        (kr [.li (ops0), .ls (ops1), .b (false)])
                                        (one (addI .i64 i 1) fun x3297 =>
                                         chk (decide (Int.ofNat (List.length x3253) = Int.ofNat (List.length x3253)) && true && true) <|
                                         chk (decide (Int.ofNat (List.length w) = Int.ofNat (List.length w)) && (decide (Int.ofNat (List.length ops0) = Int.ofNat (List.length ops0)) && true)) <|
                                         again (ops0) (ops1) (x3253) (w) (x3255) (x3297) (bytes) (most) (big)))))))
                         (br (!x3250)
                            (br (!x3257 == { data := #[] })
                               (kr [.li (ops0), .ls (ops1), .b (false)])
                               (br (x3250)
                                  (chk (decide ((0 : Int) ≤ (0 : Int) ∧ (0 : Int) < Int.ofNat (List.length w))) <|
                                   chk (decide ((0 : Int) ≤ Int.ofNat (nat_lit 0) ∧ Int.ofNat (nat_lit 0) < Int.ofNat (List.length w))) <|
                                   one ((↑(ByteArray.size (List.getD w (Int.toNat (Int.ofNat 0)) ByteArray.empty)) : Int)) fun x3298 =>
                                   one (subI .i64 bytes x3298) fun x3299 =>
                                   chk (condSl (rlOf [[Col.int .i64 ops0, Col.str ops1], [], [Col.str q_l], [Col.str w]] (3 : Nat)) (Option.some (1 : Int)) Option.none) <|
                                   chk (decide (Int.ofNat (List.length x3253) = Int.ofNat (List.length x3253)) && true && true) <|
                                   out (queue_Len x3253 x3255) fun r3300 =>
                                   un_i r3300 fun x3301 r3302 =>
                                   un_nil r3302 <|
                                   one (lenSl (rlOf [[Col.int .i64 ops0, Col.str ops1], [], [Col.str q_l], [Col.str w]] (3 : Nat)) (Option.some (1 : Int)) Option.none) fun x3303 =>
                                   br (x3301 != x3303)
                                     (kr [.li (ops0), .ls (ops1), .b (false)])
                                     (chk (decide (Int.ofNat (List.length x3253) = Int.ofNat (List.length x3253)) && true && true) <|
                                      out (queue_Bytes x3253 x3255) fun r3304 =>
                                      un_i r3304 fun x3305 r3306 =>
                                      un_nil r3306 <|
                                      br (x3305 != x3299)
                                        (kr [.li (ops0), .ls (ops1), .b (false)])
                                        (one (addI .i64 i 1) fun x3307 =>
                                         chk (decide (Int.ofNat (nat_lit 1) + lenSl (rlOf [[Col.int .i64 ops0, Col.str ops1], [], [Col.str q_l], [Col.str w]] (3 : Nat)) (Option.some (1 : Int)) Option.none ≤ Int.ofNat (List.length w))) <|
                                         chk (decide (Int.ofNat (List.length x3253) = Int.ofNat (List.length x3253)) && true && true) <|
                                         chk (decide (lenSl (rlOf [[Col.int .i64 ops0, Col.str ops1], [], [Col.str q_l], [Col.str w]] (3 : Nat)) (Option.some (1 : Int)) Option.none = Int.ofNat (List.length (List.take (Int.toNat (lenSl (rlOf [[Col.int .i64 ops0, Col.str ops1], [], [Col.str q_l], [Col.str w]] (3 : Nat)) (Option.some (1 : Int)) Option.none)) (List.drop (Int.toNat (Int.ofNat (nat_lit 1))) w)))) && (decide (Int.ofNat (List.length ops0) = Int.ofNat (List.length ops0)) && true)) <|
                                         again (ops0) (ops1) (x3253) (List.take (Int.toNat (lenSl (rlOf [[Col.int .i64 ops0, Col.str ops1], [], [Col.str q_l], [Col.str w]] (3 : Nat)) (Option.some (1 : Int)) Option.none)) (List.drop (Int.toNat (Int.ofNat (nat_lit 1))) w)) (x3255) (x3307) (x3299) (most) (big))))
                                  (chk (decide (Int.ofNat (List.length x3253) = Int.ofNat (List.length x3253)) && true && true) <|
                                   out (queue_Len x3253 x3255) fun r3308 =>
                                   un_i r3308 fun x3309 r3310 =>
                                   un_nil r3310 <|
                                   one (Int.ofNat (List.length w)) fun x3311 =>
                                   br (x3309 != x3311)
                                     (kr [.li (ops0), .ls (ops1), .b (false)])
                                     (chk (decide (Int.ofNat (List.length x3253) = Int.ofNat (List.length x3253)) && true && true) <|
                                      out (queue_Bytes x3253 x3255) fun r3312 =>
                                      un_i r3312 fun x3313 r3314 =>
                                      un_nil r3314 <|
                                      br (x3313 != bytes)
                                        (kr [.li (ops0), .ls (ops1), .b (false)])
                                        (one (addI .i64 i 1) fun x3315 =>
                                         chk (decide (Int.ofNat (List.length x3253) = Int.ofNat (List.length x3253)) && true && true) <|
                                         chk (decide (Int.ofNat (List.length w) = Int.ofNat (List.length w)) && (decide (Int.ofNat (List.length ops0) = Int.ofNat (List.length ops0)) && true)) <|
                                         again (ops0) (ops1) (x3253) (w) (x3255) (x3315) (bytes) (most) (big))))))
                            (br (x3250)
                               (chk (decide ((0 : Int) ≤ (0 : Int) ∧ (0 : Int) < Int.ofNat (List.length w))) <|
                                chk (decide ((0 : Int) ≤ Int.ofNat (nat_lit 0) ∧ Int.ofNat (nat_lit 0) < Int.ofNat (List.length w))) <|
                                one ((↑(ByteArray.size (List.getD w (Int.toNat (Int.ofNat 0)) ByteArray.empty)) : Int)) fun x3316 =>
                                one (subI .i64 bytes x3316) fun x3317 =>
                                chk (condSl (rlOf [[Col.int .i64 ops0, Col.str ops1], [], [Col.str q_l], [Col.str w]] (3 : Nat)) (Option.some (1 : Int)) Option.none) <|
                                chk (decide (Int.ofNat (List.length x3253) = Int.ofNat (List.length x3253)) && true && true) <|
                                out (queue_Len x3253 x3255) fun r3318 =>
                                un_i r3318 fun x3319 r3320 =>
                                un_nil r3320 <|
                                one (lenSl (rlOf [[Col.int .i64 ops0, Col.str ops1], [], [Col.str q_l], [Col.str w]] (3 : Nat)) (Option.some (1 : Int)) Option.none) fun x3321 =>
                                br (x3319 != x3321)
                                  (kr [.li (ops0), .ls (ops1), .b (false)])
                                  (chk (decide (Int.ofNat (List.length x3253) = Int.ofNat (List.length x3253)) && true && true) <|
                                   out (queue_Bytes x3253 x3255) fun r3322 =>
                                   un_i r3322 fun x3323 r3324 =>
                                   un_nil r3324 <|
                                   br (x3323 != x3317)
                                     (kr [.li (ops0), .ls (ops1), .b (false)])
                                     (one (addI .i64 i 1) fun x3325 =>
                                      chk (decide (Int.ofNat (nat_lit 1) + lenSl (rlOf [[Col.int .i64 ops0, Col.str ops1], [], [Col.str q_l], [Col.str w]] (3 : Nat)) (Option.some (1 : Int)) Option.none ≤ Int.ofNat (List.length w))) <|
                                      chk (decide (Int.ofNat (List.length x3253) = Int.ofNat (List.length x3253)) && true && true) <|
                                      chk (decide (lenSl (rlOf [[Col.int .i64 ops0, Col.str ops1], [], [Col.str q_l], [Col.str w]] (3 : Nat)) (Option.some (1 : Int)) Option.none = Int.ofNat (List.length (List.take (Int.toNat (lenSl (rlOf [[Col.int .i64 ops0, Col.str ops1], [], [Col.str q_l], [Col.str w]] (3 : Nat)) (Option.some (1 : Int)) Option.none)) (List.drop (Int.toNat (Int.ofNat (nat_lit 1))) w)))) && (decide (Int.ofNat (List.length ops0) = Int.ofNat (List.length ops0)) && true)) <|
                                      again (ops0) (ops1) (x3253) (List.take (Int.toNat (lenSl (rlOf [[Col.int .i64 ops0, Col.str ops1], [], [Col.str q_l], [Col.str w]] (3 : Nat)) (Option.some (1 : Int)) Option.none)) (List.drop (Int.toNat (Int.ofNat (nat_lit 1))) w)) (x3255) (x3325) (x3317) (most) (big))))
                               (chk (decide (Int.ofNat (List.length x3253) = Int.ofNat (List.length x3253)) && true && true) <|
                                out (queue_Len x3253 x3255) fun r3326 =>
                                un_i r3326 fun x3327 r3328 =>
                                un_nil r3328 <|
                                one (Int.ofNat (List.length w)) fun x3329 =>
                                br (x3327 != x3329)
                                  (kr [.li (ops0), .ls (ops1), .b (false)])
                                  (chk (decide (Int.ofNat (List.length x3253) = Int.ofNat (List.length x3253)) && true && true) <|
                                   out (queue_Bytes x3253 x3255) fun r3330 =>
                                   un_i r3330 fun x3331 r3332 =>
                                   un_nil r3332 <|
                                   br (x3331 != bytes)
                                     (kr [.li (ops0), .ls (ops1), .b (false)])
                                     (one (addI .i64 i 1) fun x3333 =>
                                      chk (decide (Int.ofNat (List.length x3253) = Int.ofNat (List.length x3253)) && true && true) <|
                                      chk (decide (Int.ofNat (List.length w) = Int.ofNat (List.length w)) && (decide (Int.ofNat (List.length ops0) = Int.ofNat (List.length ops0)) && true)) <|
                                      again (ops0) (ops1) (x3253) (w) (x3255) (x3333) (bytes) (most) (big)))))))))))
          (chk (decide ((0 : Int) ≤ i ∧ i < Int.ofNat (List.length ops0))) <|
           chk (decide ((0 : Int) ≤ i ∧ i < Int.ofNat (List.length ops0))) <|
           br (List.getD ops0 (Int.toNat i) 0 == 0)
             (one ((↑(ByteArray.size x3189) : Int)) fun x3334 =>
              br (decide (x3334 > 1400))
                (chk (decide (Int.ofNat (List.length q_l) = Int.ofNat (List.length q_l)) && true && true) <|
                 out (queue_Put q_l q_most x3189) fun r3335 =>
                 un_ls r3335 fun x3336 r3337 =>
                 un_i r3337 fun x3338 r3339 =>
                 un_i r3339 fun x3340 r3341 =>
                 un_nil r3341 <|
                 br (x3340 != 13)
                   (kr [.li (ops0), .ls (ops1), .b (false)])
                   (chk (decide (Int.ofNat (List.length x3336) = Int.ofNat (List.length x3336)) && true && true) <|
                    out (queue_Len x3336 x3338) fun r3342 =>
                    un_i r3342 fun x3343 r3344 =>
                    un_nil r3344 <|
                    one (Int.ofNat (List.length w)) fun x3345 =>
                    br (x3343 != x3345)
                      (kr [.li (ops0), .ls (ops1), .b (false)])
                      (chk (decide (Int.ofNat (List.length x3336) = Int.ofNat (List.length x3336)) && true && true) <|
                       out (queue_Bytes x3336 x3338) fun r3346 =>
                       un_i r3346 fun x3347 r3348 =>
                       un_nil r3348 <|
                       br (x3347 != bytes)
                         (kr [.li (ops0), .ls (ops1), .b (false)])
                         (one (addI .i64 i 1) fun x3349 =>
                          chk (decide (Int.ofNat (List.length x3336) = Int.ofNat (List.length x3336)) && true && true) <|
                          chk (decide (Int.ofNat (List.length w) = Int.ofNat (List.length w)) && (decide (Int.ofNat (List.length ops0) = Int.ofNat (List.length ops0)) && true)) <|
                          again (ops0) (ops1) (x3336) (w) (x3338) (x3349) (bytes) (most) (big)))))
                (one (Int.ofNat (List.length w)) fun x3350 =>
                 br (decide (x3350 ≥ most))
                   (chk (decide (Int.ofNat (List.length q_l) = Int.ofNat (List.length q_l)) && true && true) <|
                    out (queue_Put q_l q_most x3189) fun r3351 =>
                    un_ls r3351 fun x3352 r3353 =>
                    un_i r3353 fun x3354 r3355 =>
                    un_i r3355 fun x3356 r3357 =>
                    un_nil r3357 <|
                    br (x3356 != 9)
                      (kr [.li (ops0), .ls (ops1), .b (false)])
                      (chk (decide (Int.ofNat (List.length x3352) = Int.ofNat (List.length x3352)) && true && true) <|
                       out (queue_Len x3352 x3354) fun r3358 =>
                       un_i r3358 fun x3359 r3360 =>
                       un_nil r3360 <|
                       one (Int.ofNat (List.length w)) fun x3361 =>
                       br (x3359 != x3361)
                         (kr [.li (ops0), .ls (ops1), .b (false)])
                         (chk (decide (Int.ofNat (List.length x3352) = Int.ofNat (List.length x3352)) && true && true) <|
                          out (queue_Bytes x3352 x3354) fun r3362 =>
                          un_i r3362 fun x3363 r3364 =>
                          un_nil r3364 <|
                          br (x3363 != bytes)
                            (kr [.li (ops0), .ls (ops1), .b (false)])
                            (one (addI .i64 i 1) fun x3365 =>
                             chk (decide (Int.ofNat (List.length x3352) = Int.ofNat (List.length x3352)) && true && true) <|
                             chk (decide (Int.ofNat (List.length w) = Int.ofNat (List.length w)) && (decide (Int.ofNat (List.length ops0) = Int.ofNat (List.length ops0)) && true)) <|
                             again (ops0) (ops1) (x3352) (w) (x3354) (x3365) (bytes) (most) (big)))))
                   (chk (decide (Int.ofNat (List.length w) = Int.ofNat (List.length w)) && true && decide ((Int.ofNat (List.length w) + (↑(1 : Nat) : Int)) * (↑(nat_lit 16) : Int) ≤ (140737488355328 : Int) ∧ Int.ofNat (List.length w) + (↑(1 : Nat) : Int) ≤ (4611686018427387904 : Int))) <|
                    one ((↑(ByteArray.size x3189) : Int)) fun x3366 =>
                    one (addI .i64 bytes x3366) fun x3367 =>
                    chk (decide (Int.ofNat (List.length q_l) = Int.ofNat (List.length q_l)) && true && true) <|
                    out (queue_Put q_l q_most x3189) fun r3368 =>
                    un_ls r3368 fun x3369 r3370 =>
                    un_i r3370 fun x3371 r3372 =>
                    un_i r3372 fun x3373 r3374 =>
                    un_nil r3374 <|
                    br (x3373 != 0)
                      (kr [.li (ops0), .ls (ops1), .b (false)])
                      (chk (decide (Int.ofNat (List.length x3369) = Int.ofNat (List.length x3369)) && true && true) <|
                       out (queue_Len x3369 x3371) fun r3375 =>
                       un_i r3375 fun x3376 r3377 =>
                       un_nil r3377 <|
                       one (Int.ofNat (List.length w) + (↑1 : Int)) fun x3378 =>
                       br (x3376 != x3378)
                         (kr [.li (ops0), .ls (ops1), .b (false)])
                         (chk (decide (Int.ofNat (List.length x3369) = Int.ofNat (List.length x3369)) && true && true) <|
                          out (queue_Bytes x3369 x3371) fun r3379 =>
                          un_i r3379 fun x3380 r3381 =>
                          un_nil r3381 <|
                          br (x3380 != x3367)
                            (kr [.li (ops0), .ls (ops1), .b (false)])
                            (one (addI .i64 i 1) fun x3382 =>
                             chk (decide (Int.ofNat (List.length x3369) = Int.ofNat (List.length x3369)) && true && true) <|
                             chk (decide (Int.ofNat (List.length w) + (↑(1 : Nat) : Int) = Int.ofNat (List.length (w ++ [x3189]))) && (decide (Int.ofNat (List.length ops0) = Int.ofNat (List.length ops0)) && true)) <|
                             again (ops0) (ops1) (x3369) (w ++ [x3189]) (x3371) (x3382) (x3367) (most) (big)))))))
             (chk (decide (Int.ofNat (List.length q_l) = Int.ofNat (List.length q_l)) && true && true) <|
              out (queue_First q_l q_most) fun r3383 =>
              un_s r3383 fun x3384 r3385 =>
              un_b r3385 fun x3386 r3387 =>
              un_nil r3387 <|
              chk (decide (Int.ofNat (List.length q_l) = Int.ofNat (List.length q_l)) && true && true) <|
              out (queue_Take q_l q_most) fun r3388 =>
              un_ls r3388 fun x3389 r3390 =>
              un_i r3390 fun x3391 r3392 =>
              un_s r3392 fun x3393 r3394 =>
              un_b r3394 fun x3395 r3396 =>
              un_nil r3396 <|
              one (Int.ofNat (List.length w)) fun x3397 =>
              br (!x3386 == decide (x3397 > 0))
                (kr [.li (ops0), .ls (ops1), .b (false)])
                (br (!x3395 == x3386)
                   (kr [.li (ops0), .ls (ops1), .b (false)])
                   (br (!x3384 == x3393)
                      (kr [.li (ops0), .ls (ops1), .b (false)])
                      (br (x3386)
                         (chk (decide ((0 : Int) ≤ (0 : Int) ∧ (0 : Int) < Int.ofNat (List.length w))) <|
                          chk (decide ((0 : Int) ≤ Int.ofNat (nat_lit 0) ∧ Int.ofNat (nat_lit 0) < Int.ofNat (List.length w))) <|
                          br (!x3393 == List.getD w (Int.toNat (Int.ofNat 0)) ByteArray.empty)
                            (kr [.li (ops0), .ls (ops1), .b (false)])
                            (br (!x3386)
                               (br (!x3393 == { data := #[] })
                                  (kr [.li (ops0), .ls (ops1), .b (false)])
                                  (br (x3386)
                                     (chk (decide ((0 : Int) ≤ (0 : Int) ∧ (0 : Int) < Int.ofNat (List.length w))) <|
                                      chk (decide ((0 : Int) ≤ Int.ofNat (nat_lit 0) ∧ Int.ofNat (nat_lit 0) < Int.ofNat (List.length w))) <|
                                      one ((↑(ByteArray.size (List.getD w (Int.toNat (Int.ofNat 0)) ByteArray.empty)) : Int)) fun x3398 =>
                                      one (subI .i64 bytes x3398) fun x3399 =>
                                      chk (condSl (rlOf [[Col.int .i64 ops0, Col.str ops1], [], [Col.str q_l], [Col.str w]] (3 : Nat)) (Option.some (1 : Int)) Option.none) <|
                                      chk (decide (Int.ofNat (List.length x3389) = Int.ofNat (List.length x3389)) && true && true) <|
                                      out (queue_Len x3389 x3391) fun r3400 =>
                                      un_i r3400 fun x3401 r3402 =>
                                      un_nil r3402 <|
                                      one (lenSl (rlOf [[Col.int .i64 ops0, Col.str ops1], [], [Col.str q_l], [Col.str w]] (3 : Nat)) (Option.some (1 : Int)) Option.none) fun x3403 =>
                                      br (x3401 != x3403)
                                        (kr [.li (ops0), .ls (ops1), .b (false)])
                                        (chk (decide (Int.ofNat (List.length x3389) = Int.ofNat (List.length x3389)) && true && true) <|
                                         out (queue_Bytes x3389 x3391) fun r3404 =>
                                         un_i r3404 fun x3405 r3406 =>
                                         un_nil r3406 <|
                                         br (x3405 != x3399)
                                           (kr [.li (ops0), .ls (ops1), .b (false)])
                                           (one (addI .i64 i 1) fun x3407 =>
                                            chk (decide (Int.ofNat (nat_lit 1) + lenSl (rlOf [[Col.int .i64 ops0, Col.str ops1], [], [Col.str q_l], [Col.str w]] (3 : Nat)) (Option.some (1 : Int)) Option.none ≤ Int.ofNat (List.length w))) <|
                                            chk (decide (Int.ofNat (List.length x3389) = Int.ofNat (List.length x3389)) && true && true) <|
                                            chk (decide (lenSl (rlOf [[Col.int .i64 ops0, Col.str ops1], [], [Col.str q_l], [Col.str w]] (3 : Nat)) (Option.some (1 : Int)) Option.none = Int.ofNat (List.length (List.take (Int.toNat (lenSl (rlOf [[Col.int .i64 ops0, Col.str ops1], [], [Col.str q_l], [Col.str w]] (3 : Nat)) (Option.some (1 : Int)) Option.none)) (List.drop (Int.toNat (Int.ofNat (nat_lit 1))) w)))) && (decide (Int.ofNat (List.length ops0) = Int.ofNat (List.length ops0)) && true)) <|
                                            again (ops0) (ops1) (x3389) (List.take (Int.toNat (lenSl (rlOf [[Col.int .i64 ops0, Col.str ops1], [], [Col.str q_l], [Col.str w]] (3 : Nat)) (Option.some (1 : Int)) Option.none)) (List.drop (Int.toNat (Int.ofNat (nat_lit 1))) w)) (x3391) (x3407) (x3399) (most) (big))))
                                     (chk (decide (Int.ofNat (List.length x3389) = Int.ofNat (List.length x3389)) && true && true) <|
                                      out (queue_Len x3389 x3391) fun r3408 =>
                                      un_i r3408 fun x3409 r3410 =>
                                      un_nil r3410 <|
                                      one (Int.ofNat (List.length w)) fun x3411 =>
                                      br (x3409 != x3411)
                                        (kr [.li (ops0), .ls (ops1), .b (false)])
                                        (chk (decide (Int.ofNat (List.length x3389) = Int.ofNat (List.length x3389)) && true && true) <|
                                         out (queue_Bytes x3389 x3391) fun r3412 =>
                                         un_i r3412 fun x3413 r3414 =>
                                         un_nil r3414 <|
                                         br (x3413 != bytes)
                                           (kr [.li (ops0), .ls (ops1), .b (false)])
                                           (one (addI .i64 i 1) fun x3415 =>
                                            chk (decide (Int.ofNat (List.length x3389) = Int.ofNat (List.length x3389)) && true && true) <|
                                            chk (decide (Int.ofNat (List.length w) = Int.ofNat (List.length w)) && (decide (Int.ofNat (List.length ops0) = Int.ofNat (List.length ops0)) && true)) <|
                                            again (ops0) (ops1) (x3389) (w) (x3391) (x3415) (bytes) (most) (big))))))
                               (br (x3386)
                                  (chk (decide ((0 : Int) ≤ (0 : Int) ∧ (0 : Int) < Int.ofNat (List.length w))) <|
                                   chk (decide ((0 : Int) ≤ Int.ofNat (nat_lit 0) ∧ Int.ofNat (nat_lit 0) < Int.ofNat (List.length w))) <|
                                   one ((↑(ByteArray.size (List.getD w (Int.toNat (Int.ofNat 0)) ByteArray.empty)) : Int)) fun x3416 =>
                                   one (subI .i64 bytes x3416) fun x3417 =>
                                   chk (condSl (rlOf [[Col.int .i64 ops0, Col.str ops1], [], [Col.str q_l], [Col.str w]] (3 : Nat)) (Option.some (1 : Int)) Option.none) <|
                                   chk (decide (Int.ofNat (List.length x3389) = Int.ofNat (List.length x3389)) && true && true) <|
                                   out (queue_Len x3389 x3391) fun r3418 =>
                                   un_i r3418 fun x3419 r3420 =>
                                   un_nil r3420 <|
                                   one (lenSl (rlOf [[Col.int .i64 ops0, Col.str ops1], [], [Col.str q_l], [Col.str w]] (3 : Nat)) (Option.some (1 : Int)) Option.none) fun x3421 =>
                                   br (x3419 != x3421)
                                     (kr [.li (ops0), .ls (ops1), .b (false)])
                                     (chk (decide (Int.ofNat (List.length x3389) = Int.ofNat (List.length x3389)) && true && true) <|
                                      out (queue_Bytes x3389 x3391) fun r3422 =>
                                      un_i r3422 fun x3423 r3424 =>
                                      un_nil r3424 <|
                                      br (x3423 != x3417)
                                        (kr [.li (ops0), .ls (ops1), .b (false)])
                                        (one (addI .i64 i 1) fun x3425 =>
                                         chk (decide (Int.ofNat (nat_lit 1) + lenSl (rlOf [[Col.int .i64 ops0, Col.str ops1], [], [Col.str q_l], [Col.str w]] (3 : Nat)) (Option.some (1 : Int)) Option.none ≤ Int.ofNat (List.length w))) <|
                                         chk (decide (Int.ofNat (List.length x3389) = Int.ofNat (List.length x3389)) && true && true) <|
                                         chk (decide (lenSl (rlOf [[Col.int .i64 ops0, Col.str ops1], [], [Col.str q_l], [Col.str w]] (3 : Nat)) (Option.some (1 : Int)) Option.none = Int.ofNat (List.length (List.take (Int.toNat (lenSl (rlOf [[Col.int .i64 ops0, Col.str ops1], [], [Col.str q_l], [Col.str w]] (3 : Nat)) (Option.some (1 : Int)) Option.none)) (List.drop (Int.toNat (Int.ofNat (nat_lit 1))) w)))) && (decide (Int.ofNat (List.length ops0) = Int.ofNat (List.length ops0)) && true)) <|
                                         again (ops0) (ops1) (x3389) (List.take (Int.toNat (lenSl (rlOf [[Col.int .i64 ops0, Col.str ops1], [], [Col.str q_l], [Col.str w]] (3 : Nat)) (Option.some (1 : Int)) Option.none)) (List.drop (Int.toNat (Int.ofNat (nat_lit 1))) w)) (x3391) (x3425) (x3417) (most) (big))))
                                  (chk (decide (Int.ofNat (List.length x3389) = Int.ofNat (List.length x3389)) && true && true) <|
                                   out (queue_Len x3389 x3391) fun r3426 =>
                                   un_i r3426 fun x3427 r3428 =>
                                   un_nil r3428 <|
                                   one (Int.ofNat (List.length w)) fun x3429 =>
                                   br (x3427 != x3429)
                                     (kr [.li (ops0), .ls (ops1), .b (false)])
                                     (chk (decide (Int.ofNat (List.length x3389) = Int.ofNat (List.length x3389)) && true && true) <|
                                      out (queue_Bytes x3389 x3391) fun r3430 =>
                                      un_i r3430 fun x3431 r3432 =>
                                      un_nil r3432 <|
                                      br (x3431 != bytes)
                                        (kr [.li (ops0), .ls (ops1), .b (false)])
                                        (one (addI .i64 i 1) fun x3433 =>
                                         chk (decide (Int.ofNat (List.length x3389) = Int.ofNat (List.length x3389)) && true && true) <|
                                         chk (decide (Int.ofNat (List.length w) = Int.ofNat (List.length w)) && (decide (Int.ofNat (List.length ops0) = Int.ofNat (List.length ops0)) && true)) <|
                                         again (ops0) (ops1) (x3389) (w) (x3391) (x3433) (bytes) (most) (big)))))))
                         (br (!x3386)
                            (br (!x3393 == { data := #[] })
                               (kr [.li (ops0), .ls (ops1), .b (false)])
                               (br (x3386)
                                  (chk (decide ((0 : Int) ≤ (0 : Int) ∧ (0 : Int) < Int.ofNat (List.length w))) <|
                                   chk (decide ((0 : Int) ≤ Int.ofNat (nat_lit 0) ∧ Int.ofNat (nat_lit 0) < Int.ofNat (List.length w))) <|
                                   one ((↑(ByteArray.size (List.getD w (Int.toNat (Int.ofNat 0)) ByteArray.empty)) : Int)) fun x3434 =>
                                   one (subI .i64 bytes x3434) fun x3435 =>
                                   chk (condSl (rlOf [[Col.int .i64 ops0, Col.str ops1], [], [Col.str q_l], [Col.str w]] (3 : Nat)) (Option.some (1 : Int)) Option.none) <|
                                   chk (decide (Int.ofNat (List.length x3389) = Int.ofNat (List.length x3389)) && true && true) <|
                                   out (queue_Len x3389 x3391) fun r3436 =>
                                   un_i r3436 fun x3437 r3438 =>
                                   un_nil r3438 <|
                                   one (lenSl (rlOf [[Col.int .i64 ops0, Col.str ops1], [], [Col.str q_l], [Col.str w]] (3 : Nat)) (Option.some (1 : Int)) Option.none) fun x3439 =>
                                   br (x3437 != x3439)
                                     (kr [.li (ops0), .ls (ops1), .b (false)])
                                     (chk (decide (Int.ofNat (List.length x3389) = Int.ofNat (List.length x3389)) && true && true) <|
                                      out (queue_Bytes x3389 x3391) fun r3440 =>
                                      un_i r3440 fun x3441 r3442 =>
                                      un_nil r3442 <|
                                      br (x3441 != x3435)
                                        (kr [.li (ops0), .ls (ops1), .b (false)])
                                        (one (addI .i64 i 1) fun x3443 =>
                                         chk (decide (Int.ofNat (nat_lit 1) + lenSl (rlOf [[Col.int .i64 ops0, Col.str ops1], [], [Col.str q_l], [Col.str w]] (3 : Nat)) (Option.some (1 : Int)) Option.none ≤ Int.ofNat (List.length w))) <|
                                         chk (decide (Int.ofNat (List.length x3389) = Int.ofNat (List.length x3389)) && true && true) <|
                                         chk (decide (lenSl (rlOf [[Col.int .i64 ops0, Col.str ops1], [], [Col.str q_l], [Col.str w]] (3 : Nat)) (Option.some (1 : Int)) Option.none = Int.ofNat (List.length (List.take (Int.toNat (lenSl (rlOf [[Col.int .i64 ops0, Col.str ops1], [], [Col.str q_l], [Col.str w]] (3 : Nat)) (Option.some (1 : Int)) Option.none)) (List.drop (Int.toNat (Int.ofNat (nat_lit 1))) w)))) && (decide (Int.ofNat (List.length ops0) = Int.ofNat (List.length ops0)) && true)) <|
                                         again (ops0) (ops1) (x3389) (List.take (Int.toNat (lenSl (rlOf [[Col.int .i64 ops0, Col.str ops1], [], [Col.str q_l], [Col.str w]] (3 : Nat)) (Option.some (1 : Int)) Option.none)) (List.drop (Int.toNat (Int.ofNat (nat_lit 1))) w)) (x3391) (x3443) (x3435) (most) (big))))
                                  (chk (decide (Int.ofNat (List.length x3389) = Int.ofNat (List.length x3389)) && true && true) <|
                                   out (queue_Len x3389 x3391) fun r3444 =>
                                   un_i r3444 fun x3445 r3446 =>
                                   un_nil r3446 <|
                                   one (Int.ofNat (List.length w)) fun x3447 =>
                                   br (x3445 != x3447)
                                     (kr [.li (ops0), .ls (ops1), .b (false)])
                                     (chk (decide (Int.ofNat (List.length x3389) = Int.ofNat (List.length x3389)) && true && true) <|
                                      out (queue_Bytes x3389 x3391) fun r3448 =>
                                      un_i r3448 fun x3449 r3450 =>
                                      un_nil r3450 <|
                                      br (x3449 != bytes)
                                        (kr [.li (ops0), .ls (ops1), .b (false)])
                                        (one (addI .i64 i 1) fun x3451 =>
                                         chk (decide (Int.ofNat (List.length x3389) = Int.ofNat (List.length x3389)) && true && true) <|
                                         chk (decide (Int.ofNat (List.length w) = Int.ofNat (List.length w)) && (decide (Int.ofNat (List.length ops0) = Int.ofNat (List.length ops0)) && true)) <|
                                         again (ops0) (ops1) (x3389) (w) (x3391) (x3451) (bytes) (most) (big))))))
                            (br (x3386)
                               (chk (decide ((0 : Int) ≤ (0 : Int) ∧ (0 : Int) < Int.ofNat (List.length w))) <|
                                chk (decide ((0 : Int) ≤ Int.ofNat (nat_lit 0) ∧ Int.ofNat (nat_lit 0) < Int.ofNat (List.length w))) <|
                                one ((↑(ByteArray.size (List.getD w (Int.toNat (Int.ofNat 0)) ByteArray.empty)) : Int)) fun x3452 =>
                                one (subI .i64 bytes x3452) fun x3453 =>
                                chk (condSl (rlOf [[Col.int .i64 ops0, Col.str ops1], [], [Col.str q_l], [Col.str w]] (3 : Nat)) (Option.some (1 : Int)) Option.none) <|
                                chk (decide (Int.ofNat (List.length x3389) = Int.ofNat (List.length x3389)) && true && true) <|
                                out (queue_Len x3389 x3391) fun r3454 =>
                                un_i r3454 fun x3455 r3456 =>
                                un_nil r3456 <|
                                one (lenSl (rlOf [[Col.int .i64 ops0, Col.str ops1], [], [Col.str q_l], [Col.str w]] (3 : Nat)) (Option.some (1 : Int)) Option.none) fun x3457 =>
                                br (x3455 != x3457)
                                  (kr [.li (ops0), .ls (ops1), .b (false)])
                                  (chk (decide (Int.ofNat (List.length x3389) = Int.ofNat (List.length x3389)) && true && true) <|
                                   out (queue_Bytes x3389 x3391) fun r3458 =>
                                   un_i r3458 fun x3459 r3460 =>
                                   un_nil r3460 <|
                                   br (x3459 != x3453)
                                     (kr [.li (ops0), .ls (ops1), .b (false)])
                                     (one (addI .i64 i 1) fun x3461 =>
                                      chk (decide (Int.ofNat (nat_lit 1) + lenSl (rlOf [[Col.int .i64 ops0, Col.str ops1], [], [Col.str q_l], [Col.str w]] (3 : Nat)) (Option.some (1 : Int)) Option.none ≤ Int.ofNat (List.length w))) <|
                                      chk (decide (Int.ofNat (List.length x3389) = Int.ofNat (List.length x3389)) && true && true) <|
                                      chk (decide (lenSl (rlOf [[Col.int .i64 ops0, Col.str ops1], [], [Col.str q_l], [Col.str w]] (3 : Nat)) (Option.some (1 : Int)) Option.none = Int.ofNat (List.length (List.take (Int.toNat (lenSl (rlOf [[Col.int .i64 ops0, Col.str ops1], [], [Col.str q_l], [Col.str w]] (3 : Nat)) (Option.some (1 : Int)) Option.none)) (List.drop (Int.toNat (Int.ofNat (nat_lit 1))) w)))) && (decide (Int.ofNat (List.length ops0) = Int.ofNat (List.length ops0)) && true)) <|
                                      again (ops0) (ops1) (x3389) (List.take (Int.toNat (lenSl (rlOf [[Col.int .i64 ops0, Col.str ops1], [], [Col.str q_l], [Col.str w]] (3 : Nat)) (Option.some (1 : Int)) Option.none)) (List.drop (Int.toNat (Int.ofNat (nat_lit 1))) w)) (x3391) (x3461) (x3453) (most) (big))))
                               (chk (decide (Int.ofNat (List.length x3389) = Int.ofNat (List.length x3389)) && true && true) <|
                                out (queue_Len x3389 x3391) fun r3462 =>
                                un_i r3462 fun x3463 r3464 =>
                                un_nil r3464 <|
                                one (Int.ofNat (List.length w)) fun x3465 =>
                                br (x3463 != x3465)
                                  (kr [.li (ops0), .ls (ops1), .b (false)])
                                  (chk (decide (Int.ofNat (List.length x3389) = Int.ofNat (List.length x3389)) && true && true) <|
                                   out (queue_Bytes x3389 x3391) fun r3466 =>
                                   un_i r3466 fun x3467 r3468 =>
                                   un_nil r3468 <|
                                   br (x3467 != bytes)
                                     (kr [.li (ops0), .ls (ops1), .b (false)])
                                     (one (addI .i64 i 1) fun x3469 =>
                                      chk (decide (Int.ofNat (List.length x3389) = Int.ofNat (List.length x3389)) && true && true) <|
                                      chk (decide (Int.ofNat (List.length w) = Int.ofNat (List.length w)) && (decide (Int.ofNat (List.length ops0) = Int.ofNat (List.length ops0)) && true)) <|
                                      again (ops0) (ops1) (x3389) (w) (x3391) (x3469) (bytes) (most) (big))))))))))))
       (kx 0 [.li (ops0), .ls (ops1)]))
    (kx 0 [.li (ops0), .ls (ops1)])
def QueueAll_10_L {α : Type} (kx : Nat → List Leaf → Option α) (kr : List Leaf → Option α) : Nat → List Int → List ByteArray → List ByteArray → List ByteArray → Int → Int → Int → Int → Int → Option α
  | 0, _, _, _, _, _, _, _, _, _ => none
  | n + 1, ops0, ops1, q_l, w, q_most, i, bytes, most, big => QueueAll_10_B  kx kr (QueueAll_10_L kx kr n) ops0 ops1 q_l w q_most i bytes most big
def QueueAll_10_F (L10 : ({β : Type} → (Nat → List Leaf → Option β) → (List Leaf → Option β) → Nat → List Int → List ByteArray → List ByteArray → List ByteArray → Int → Int → Int → Int → Int → Option β)) {α : Type} (n : Nat) (ls : List Leaf) (kx : Nat → List Leaf → Option α) (kr : List Leaf → Option α) : Option α := un_li ls fun ops0 rr => un_ls rr fun ops1 rr => un_ls rr fun q_l rr => un_ls rr fun w rr => un_i rr fun q_most rr => un_i rr fun i rr => un_i rr fun bytes rr => un_i rr fun most rr => un_i rr fun big rr => un_nil rr (L10 kx kr n ops0 ops1 q_l w q_most i bytes most big)
def QueueAll_d (L10 : ({β : Type} → (Nat → List Leaf → Option β) → (List Leaf → Option β) → Nat → List Int → List ByteArray → List ByteArray → List ByteArray → Int → Int → Int → Int → Int → Option β)) (ops0 : List Int) (ops1 : List ByteArray) (most : Int) (big : Int) : Option (List Leaf) :=
  br (decide (most < 1))
    (br (decide (most < 1))
       (some [.b (true)])
       (br (decide (most > 50))
          (some [.b (true)])
          (none)))
    (br (decide (most > 50))
       (br (decide (most < 1))
          (some [.b (true)])
          (br (decide (most > 50))
             (some [.b (true)])
             (none)))
       (br (decide (most < 1))
          (some [.b (false)])
          (br (decide (most > 50))
             (some [.b (false)])
             (chk (decide ((0 : Int) = Int.ofNat (0 : Nat)) && true && true) <|
              chk (decide ((0 : Int) = Int.ofNat (0 : Nat)) && (decide (Int.ofNat (List.length ops0) = Int.ofNat (List.length ops0)) && true)) <|
              L10
                (fun i3470 r3471 =>
                 br (Nat.beq 0 i3470)
                   (un_li r3471 fun x3472 r3473 =>
                    un_ls r3473 fun x3474 r3475 =>
                    un_nil r3475 <|
                    some [.b (true)])
                   (none))
                (fun r3476 =>
                 un_li r3476 fun x3477 r3478 =>
                 un_ls r3478 fun x3479 r3480 =>
                 un_b r3480 fun x3481 r3482 =>
                 un_nil r3482 <|
                 some [.b (x3481)])
                top (ops0) (ops1) ([]) ([]) (most) (0) (0) (most) (big)))))
def QueueAll (ops0 : List Int) (ops1 : List ByteArray) (most : Int) (big : Int) : Option (List Leaf) := QueueAll_d @QueueAll_10_L ops0 ops1 most big
end Go.Sx.T

