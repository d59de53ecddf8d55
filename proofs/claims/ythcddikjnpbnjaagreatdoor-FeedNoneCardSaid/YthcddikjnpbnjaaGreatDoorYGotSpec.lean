import Derived.Test.YthcddikjnpbnjaaGreatDoorYVecSpec
import Derived.Test.YthcddikjnpbnjaaGreatDoorYDrop
set_option linter.all false
namespace Go.Sx.T
open Go Go.Sx
def got_New  : Option (List Leaf) :=
  some [.li ([]), .li ([]), .i (0), .b (false), .i (0), .b (false)]
def got_Has (g_l_k : List Int) (g_l_v : List Int) (g_newest : Int) (g_any : Bool) (g_forgotten : Int) (g_forgot : Bool) (s : Int) : Option (List Leaf) :=
  out (seq_Of s) fun r3130 =>
  un_i r3130 fun x3131 r3132 =>
  un_nil r3132 <|
  one (mget 0 g_l_k g_l_v x3131) fun x3133 =>
  some [.b (mhas g_l_k x3131)]
def got_Put (g_l_k : List Int) (g_l_v : List Int) (g_newest : Int) (g_any : Bool) (g_forgotten : Int) (g_forgot : Bool) (s : Int) (mark : Bool) : Option (List Leaf) :=
  out (seq_Of s) fun r3134 =>
  un_i r3134 fun x3135 r3136 =>
  un_nil r3136 <|
  out (got_Has g_l_k g_l_v g_newest g_any g_forgotten g_forgot x3135) fun r3137 =>
  un_b r3137 fun x3138 r3139 =>
  un_nil r3139 <|
  br (x3138)
    (some [.li (g_l_k), .li (g_l_v), .i (g_newest), .b (g_any), .i (g_forgotten), .b (g_forgot), .b (false)])
    (br (g_any)
       (out (seq_Diff g_newest x3135) fun r3140 =>
        un_i r3140 fun x3141 r3142 =>
        un_nil r3142 <|
        br (decide (x3141 ≥ 250))
          (some [.li (g_l_k), .li (g_l_v), .i (g_newest), .b (g_any), .i (g_forgotten), .b (g_forgot), .b (false)])
          (br (g_forgot)
             (out (seq_Less g_forgotten x3135) fun r3143 =>
              un_b r3143 fun x3144 r3145 =>
              un_nil r3145 <|
              br (!x3144)
                (some [.li (g_l_k), .li (g_l_v), .i (g_newest), .b (g_any), .i (g_forgotten), .b (g_forgot), .b (false)])
                (br (mark)
                   (br (!g_any)
                      (out (got_drop (mputK (mputK g_l_k x3135) x3135) (mputV (mputK g_l_k x3135) (mputV g_l_k g_l_v x3135 0) x3135 1) x3135 true g_forgotten g_forgot x3135) fun r3146 =>
                       un_li r3146 fun x3147 r3148 =>
                       un_li r3148 fun x3149 r3150 =>
                       un_i r3150 fun x3151 r3152 =>
                       un_b r3152 fun x3153 r3154 =>
                       un_i r3154 fun x3155 r3156 =>
                       un_b r3156 fun x3157 r3158 =>
                       un_i r3158 fun x3159 r3160 =>
                       un_nil r3160 <|
                       some [.li (x3147), .li (x3149), .i (x3151), .b (x3153), .i (x3155), .b (x3157), .b (true)])
                      (out (seq_Less g_newest x3135) fun r3161 =>
                       un_b r3161 fun x3162 r3163 =>
                       un_nil r3163 <|
                       br (x3162)
                         (out (got_drop (mputK (mputK g_l_k x3135) x3135) (mputV (mputK g_l_k x3135) (mputV g_l_k g_l_v x3135 0) x3135 1) x3135 true g_forgotten g_forgot x3135) fun r3164 =>
                          un_li r3164 fun x3165 r3166 =>
                          un_li r3166 fun x3167 r3168 =>
                          un_i r3168 fun x3169 r3170 =>
                          un_b r3170 fun x3171 r3172 =>
                          un_i r3172 fun x3173 r3174 =>
                          un_b r3174 fun x3175 r3176 =>
                          un_i r3176 fun x3177 r3178 =>
                          un_nil r3178 <|
                          some [.li (x3165), .li (x3167), .i (x3169), .b (x3171), .i (x3173), .b (x3175), .b (true)])
                         (some [.li (mputK (mputK g_l_k x3135) x3135), .li (mputV (mputK g_l_k x3135) (mputV g_l_k g_l_v x3135 0) x3135 1), .i (g_newest), .b (g_any), .i (g_forgotten), .b (g_forgot), .b (true)])))
                   (br (!g_any)
                      (out (got_drop (mputK g_l_k x3135) (mputV g_l_k g_l_v x3135 0) x3135 true g_forgotten g_forgot x3135) fun r3179 =>
                       un_li r3179 fun x3180 r3181 =>
                       un_li r3181 fun x3182 r3183 =>
                       un_i r3183 fun x3184 r3185 =>
                       un_b r3185 fun x3186 r3187 =>
                       un_i r3187 fun x3188 r3189 =>
                       un_b r3189 fun x3190 r3191 =>
                       un_i r3191 fun x3192 r3193 =>
                       un_nil r3193 <|
                       some [.li (x3180), .li (x3182), .i (x3184), .b (x3186), .i (x3188), .b (x3190), .b (true)])
                      (out (seq_Less g_newest x3135) fun r3194 =>
                       un_b r3194 fun x3195 r3196 =>
                       un_nil r3196 <|
                       br (x3195)
                         (out (got_drop (mputK g_l_k x3135) (mputV g_l_k g_l_v x3135 0) x3135 true g_forgotten g_forgot x3135) fun r3197 =>
                          un_li r3197 fun x3198 r3199 =>
                          un_li r3199 fun x3200 r3201 =>
                          un_i r3201 fun x3202 r3203 =>
                          un_b r3203 fun x3204 r3205 =>
                          un_i r3205 fun x3206 r3207 =>
                          un_b r3207 fun x3208 r3209 =>
                          un_i r3209 fun x3210 r3211 =>
                          un_nil r3211 <|
                          some [.li (x3198), .li (x3200), .i (x3202), .b (x3204), .i (x3206), .b (x3208), .b (true)])
                         (some [.li (mputK g_l_k x3135), .li (mputV g_l_k g_l_v x3135 0), .i (g_newest), .b (g_any), .i (g_forgotten), .b (g_forgot), .b (true)])))))
             (br (mark)
                (br (!g_any)
                   (out (got_drop (mputK (mputK g_l_k x3135) x3135) (mputV (mputK g_l_k x3135) (mputV g_l_k g_l_v x3135 0) x3135 1) x3135 true g_forgotten g_forgot x3135) fun r3212 =>
                    un_li r3212 fun x3213 r3214 =>
                    un_li r3214 fun x3215 r3216 =>
                    un_i r3216 fun x3217 r3218 =>
                    un_b r3218 fun x3219 r3220 =>
                    un_i r3220 fun x3221 r3222 =>
                    un_b r3222 fun x3223 r3224 =>
                    un_i r3224 fun x3225 r3226 =>
                    un_nil r3226 <|
                    some [.li (x3213), .li (x3215), .i (x3217), .b (x3219), .i (x3221), .b (x3223), .b (true)])
                   (out (seq_Less g_newest x3135) fun r3227 =>
                    un_b r3227 fun x3228 r3229 =>
                    un_nil r3229 <|
                    br (x3228)
                      (out (got_drop (mputK (mputK g_l_k x3135) x3135) (mputV (mputK g_l_k x3135) (mputV g_l_k g_l_v x3135 0) x3135 1) x3135 true g_forgotten g_forgot x3135) fun r3230 =>
                       un_li r3230 fun x3231 r3232 =>
                       un_li r3232 fun x3233 r3234 =>
                       un_i r3234 fun x3235 r3236 =>
                       un_b r3236 fun x3237 r3238 =>
                       un_i r3238 fun x3239 r3240 =>
                       un_b r3240 fun x3241 r3242 =>
                       un_i r3242 fun x3243 r3244 =>
                       un_nil r3244 <|
                       some [.li (x3231), .li (x3233), .i (x3235), .b (x3237), .i (x3239), .b (x3241), .b (true)])
                      (some [.li (mputK (mputK g_l_k x3135) x3135), .li (mputV (mputK g_l_k x3135) (mputV g_l_k g_l_v x3135 0) x3135 1), .i (g_newest), .b (g_any), .i (g_forgotten), .b (g_forgot), .b (true)])))
                (br (!g_any)
                   (out (got_drop (mputK g_l_k x3135) (mputV g_l_k g_l_v x3135 0) x3135 true g_forgotten g_forgot x3135) fun r3245 =>
                    un_li r3245 fun x3246 r3247 =>
                    un_li r3247 fun x3248 r3249 =>
                    un_i r3249 fun x3250 r3251 =>
                    un_b r3251 fun x3252 r3253 =>
                    un_i r3253 fun x3254 r3255 =>
                    un_b r3255 fun x3256 r3257 =>
                    un_i r3257 fun x3258 r3259 =>
                    un_nil r3259 <|
                    some [.li (x3246), .li (x3248), .i (x3250), .b (x3252), .i (x3254), .b (x3256), .b (true)])
                   (out (seq_Less g_newest x3135) fun r3260 =>
                    un_b r3260 fun x3261 r3262 =>
                    un_nil r3262 <|
                    br (x3261)
                      (out (got_drop (mputK g_l_k x3135) (mputV g_l_k g_l_v x3135 0) x3135 true g_forgotten g_forgot x3135) fun r3263 =>
                       un_li r3263 fun x3264 r3265 =>
                       un_li r3265 fun x3266 r3267 =>
                       un_i r3267 fun x3268 r3269 =>
                       un_b r3269 fun x3270 r3271 =>
                       un_i r3271 fun x3272 r3273 =>
                       un_b r3273 fun x3274 r3275 =>
                       un_i r3275 fun x3276 r3277 =>
                       un_nil r3277 <|
                       some [.li (x3264), .li (x3266), .i (x3268), .b (x3270), .i (x3272), .b (x3274), .b (true)])
                      (some [.li (mputK g_l_k x3135), .li (mputV g_l_k g_l_v x3135 0), .i (g_newest), .b (g_any), .i (g_forgotten), .b (g_forgot), .b (true)]))))))
       (br (g_forgot)
          (out (seq_Less g_forgotten x3135) fun r3278 =>
           un_b r3278 fun x3279 r3280 =>
           un_nil r3280 <|
           br (!x3279)
             (some [.li (g_l_k), .li (g_l_v), .i (g_newest), .b (g_any), .i (g_forgotten), .b (g_forgot), .b (false)])
             (br (mark)
                (br (!g_any)
                   (out (got_drop (mputK (mputK g_l_k x3135) x3135) (mputV (mputK g_l_k x3135) (mputV g_l_k g_l_v x3135 0) x3135 1) x3135 true g_forgotten g_forgot x3135) fun r3281 =>
                    un_li r3281 fun x3282 r3283 =>
                    un_li r3283 fun x3284 r3285 =>
                    un_i r3285 fun x3286 r3287 =>
                    un_b r3287 fun x3288 r3289 =>
                    un_i r3289 fun x3290 r3291 =>
                    un_b r3291 fun x3292 r3293 =>
                    un_i r3293 fun x3294 r3295 =>
                    un_nil r3295 <|
                    some [.li (x3282), .li (x3284), .i (x3286), .b (x3288), .i (x3290), .b (x3292), .b (true)])
                   (out (seq_Less g_newest x3135) fun r3296 =>
                    un_b r3296 fun x3297 r3298 =>
                    un_nil r3298 <|
                    br (x3297)
                      (out (got_drop (mputK (mputK g_l_k x3135) x3135) (mputV (mputK g_l_k x3135) (mputV g_l_k g_l_v x3135 0) x3135 1) x3135 true g_forgotten g_forgot x3135) fun r3299 =>
                       un_li r3299 fun x3300 r3301 =>
                       un_li r3301 fun x3302 r3303 =>
                       un_i r3303 fun x3304 r3305 =>
                       un_b r3305 fun x3306 r3307 =>
                       un_i r3307 fun x3308 r3309 =>
                       un_b r3309 fun x3310 r3311 =>
                       un_i r3311 fun x3312 r3313 =>
                       un_nil r3313 <|
                       some [.li (x3300), .li (x3302), .i (x3304), .b (x3306), .i (x3308), .b (x3310), .b (true)])
                      (some [.li (mputK (mputK g_l_k x3135) x3135), .li (mputV (mputK g_l_k x3135) (mputV g_l_k g_l_v x3135 0) x3135 1), .i (g_newest), .b (g_any), .i (g_forgotten), .b (g_forgot), .b (true)])))
                (br (!g_any)
                   (out (got_drop (mputK g_l_k x3135) (mputV g_l_k g_l_v x3135 0) x3135 true g_forgotten g_forgot x3135) fun r3314 =>
                    un_li r3314 fun x3315 r3316 =>
                    un_li r3316 fun x3317 r3318 =>
                    un_i r3318 fun x3319 r3320 =>
                    un_b r3320 fun x3321 r3322 =>
                    un_i r3322 fun x3323 r3324 =>
                    un_b r3324 fun x3325 r3326 =>
                    un_i r3326 fun x3327 r3328 =>
                    un_nil r3328 <|
                    some [.li (x3315), .li (x3317), .i (x3319), .b (x3321), .i (x3323), .b (x3325), .b (true)])
                   (out (seq_Less g_newest x3135) fun r3329 =>
                    un_b r3329 fun x3330 r3331 =>
                    un_nil r3331 <|
                    br (x3330)
                      (out (got_drop (mputK g_l_k x3135) (mputV g_l_k g_l_v x3135 0) x3135 true g_forgotten g_forgot x3135) fun r3332 =>
                       un_li r3332 fun x3333 r3334 =>
                       un_li r3334 fun x3335 r3336 =>
                       un_i r3336 fun x3337 r3338 =>
                       un_b r3338 fun x3339 r3340 =>
                       un_i r3340 fun x3341 r3342 =>
                       un_b r3342 fun x3343 r3344 =>
                       un_i r3344 fun x3345 r3346 =>
                       un_nil r3346 <|
                       some [.li (x3333), .li (x3335), .i (x3337), .b (x3339), .i (x3341), .b (x3343), .b (true)])
                      (some [.li (mputK g_l_k x3135), .li (mputV g_l_k g_l_v x3135 0), .i (g_newest), .b (g_any), .i (g_forgotten), .b (g_forgot), .b (true)])))))
          (br (mark)
             (br (!g_any)
                (out (got_drop (mputK (mputK g_l_k x3135) x3135) (mputV (mputK g_l_k x3135) (mputV g_l_k g_l_v x3135 0) x3135 1) x3135 true g_forgotten g_forgot x3135) fun r3347 =>
                 un_li r3347 fun x3348 r3349 =>
                 un_li r3349 fun x3350 r3351 =>
                 un_i r3351 fun x3352 r3353 =>
                 un_b r3353 fun x3354 r3355 =>
                 un_i r3355 fun x3356 r3357 =>
                 un_b r3357 fun x3358 r3359 =>
                 un_i r3359 fun x3360 r3361 =>
                 un_nil r3361 <|
                 some [.li (x3348), .li (x3350), .i (x3352), .b (x3354), .i (x3356), .b (x3358), .b (true)])
                (out (seq_Less g_newest x3135) fun r3362 =>
                 un_b r3362 fun x3363 r3364 =>
                 un_nil r3364 <|
                 br (x3363)
                   (out (got_drop (mputK (mputK g_l_k x3135) x3135) (mputV (mputK g_l_k x3135) (mputV g_l_k g_l_v x3135 0) x3135 1) x3135 true g_forgotten g_forgot x3135) fun r3365 =>
                    un_li r3365 fun x3366 r3367 =>
                    un_li r3367 fun x3368 r3369 =>
                    un_i r3369 fun x3370 r3371 =>
                    un_b r3371 fun x3372 r3373 =>
                    un_i r3373 fun x3374 r3375 =>
                    un_b r3375 fun x3376 r3377 =>
                    un_i r3377 fun x3378 r3379 =>
                    un_nil r3379 <|
                    some [.li (x3366), .li (x3368), .i (x3370), .b (x3372), .i (x3374), .b (x3376), .b (true)])
                   (some [.li (mputK (mputK g_l_k x3135) x3135), .li (mputV (mputK g_l_k x3135) (mputV g_l_k g_l_v x3135 0) x3135 1), .i (g_newest), .b (g_any), .i (g_forgotten), .b (g_forgot), .b (true)])))
             (br (!g_any)
                (out (got_drop (mputK g_l_k x3135) (mputV g_l_k g_l_v x3135 0) x3135 true g_forgotten g_forgot x3135) fun r3380 =>
                 un_li r3380 fun x3381 r3382 =>
                 un_li r3382 fun x3383 r3384 =>
                 un_i r3384 fun x3385 r3386 =>
                 un_b r3386 fun x3387 r3388 =>
                 un_i r3388 fun x3389 r3390 =>
                 un_b r3390 fun x3391 r3392 =>
                 un_i r3392 fun x3393 r3394 =>
                 un_nil r3394 <|
                 some [.li (x3381), .li (x3383), .i (x3385), .b (x3387), .i (x3389), .b (x3391), .b (true)])
                (out (seq_Less g_newest x3135) fun r3395 =>
                 un_b r3395 fun x3396 r3397 =>
                 un_nil r3397 <|
                 br (x3396)
                   (out (got_drop (mputK g_l_k x3135) (mputV g_l_k g_l_v x3135 0) x3135 true g_forgotten g_forgot x3135) fun r3398 =>
                    un_li r3398 fun x3399 r3400 =>
                    un_li r3400 fun x3401 r3402 =>
                    un_i r3402 fun x3403 r3404 =>
                    un_b r3404 fun x3405 r3406 =>
                    un_i r3406 fun x3407 r3408 =>
                    un_b r3408 fun x3409 r3410 =>
                    un_i r3410 fun x3411 r3412 =>
                    un_nil r3412 <|
                    some [.li (x3399), .li (x3401), .i (x3403), .b (x3405), .i (x3407), .b (x3409), .b (true)])
                   (some [.li (mputK g_l_k x3135), .li (mputV g_l_k g_l_v x3135 0), .i (g_newest), .b (g_any), .i (g_forgotten), .b (g_forgot), .b (true)]))))))
def got_Cells_5_B  {α : Type} (kx : Nat → List Leaf → Option α) (kr : List Leaf → Option α) (again : List Int → List Int → List Int → Int → Bool → Int → Bool → Int → Int → Option α) (g_l_k : List Int) (g_l_v : List Int) (states : List Int) (g_newest : Int) (g_any : Bool) (g_forgotten : Int) (g_forgot : Bool) (n2 : Int) (left : Int) : Option α :=
  br (decide (left > 0))
    (one (mget 0 g_l_k g_l_v n2) fun x3422 =>
     br (!mhas g_l_k n2)
       (chk (decide (Int.ofNat (List.length states) = Int.ofNat (List.length states)) && true && decide ((Int.ofNat (List.length states) + (↑(1 : Nat) : Int)) * (↑(nat_lit 8) : Int) ≤ (140737488355328 : Int) ∧ Int.ofNat (List.length states) + (↑(1 : Nat) : Int) ≤ (4611686018427387904 : Int))) <|
        out (seq_Add n2 (-1)) fun r3423 =>
        un_i r3423 fun x3424 r3425 =>
        un_nil r3425 <|
        chk (decide (Int.ofNat (List.length states) + (↑(1 : Nat) : Int) = Int.ofNat (List.length (states ++ [(3 : Int)]))) && true) <|
        again (g_l_k) (g_l_v) (states ++ [(3 : Int)]) (g_newest) (g_any) (g_forgotten) (g_forgot) (x3424) (left))
       (one (subI .i64 left 1) fun x3426 =>
        chk (decide (Int.ofNat (List.length states) = Int.ofNat (List.length states)) && true && decide ((Int.ofNat (List.length states) + (↑(1 : Nat) : Int)) * (↑(nat_lit 8) : Int) ≤ (140737488355328 : Int) ∧ Int.ofNat (List.length states) + (↑(1 : Nat) : Int) ≤ (4611686018427387904 : Int))) <|
        out (seq_Add n2 (-1)) fun r3427 =>
        un_i r3427 fun x3428 r3429 =>
        un_nil r3429 <|
        chk (decide (Int.ofNat (List.length states) + (↑(1 : Nat) : Int) = Int.ofNat (List.length (states ++ [x3422]))) && true) <|
        again (g_l_k) (g_l_v) (states ++ [x3422]) (g_newest) (g_any) (g_forgotten) (g_forgot) (x3428) (x3426)))
    (chk (decide (Int.ofNat (List.length states) = Int.ofNat (List.length states)) && true) <|
     kx 0 [.li (g_l_k), .li (g_l_v), .li (states), .i (g_newest), .b (g_any), .i (g_forgotten), .b (g_forgot)])
def got_Cells_5_L {α : Type} (kx : Nat → List Leaf → Option α) (kr : List Leaf → Option α) : Nat → List Int → List Int → List Int → Int → Bool → Int → Bool → Int → Int → Option α
  | 0, _, _, _, _, _, _, _, _, _ => none
  | n + 1, g_l_k, g_l_v, states, g_newest, g_any, g_forgotten, g_forgot, n2, left => got_Cells_5_B  kx kr (got_Cells_5_L kx kr n) g_l_k g_l_v states g_newest g_any g_forgotten g_forgot n2 left
def got_Cells_5_F (L5 : ({β : Type} → (Nat → List Leaf → Option β) → (List Leaf → Option β) → Nat → List Int → List Int → List Int → Int → Bool → Int → Bool → Int → Int → Option β)) {α : Type} (n : Nat) (ls : List Leaf) (kx : Nat → List Leaf → Option α) (kr : List Leaf → Option α) : Option α := un_li ls fun g_l_k rr => un_li rr fun g_l_v rr => un_li rr fun states rr => un_i rr fun g_newest rr => un_b rr fun g_any rr => un_i rr fun g_forgotten rr => un_b rr fun g_forgot rr => un_i rr fun n2 rr => un_i rr fun left rr => un_nil rr (L5 kx kr n g_l_k g_l_v states g_newest g_any g_forgotten g_forgot n2 left)
def got_Cells_d (L5 : ({β : Type} → (Nat → List Leaf → Option β) → (List Leaf → Option β) → Nat → List Int → List Int → List Int → Int → Bool → Int → Bool → Int → Int → Option β)) (g_l_k : List Int) (g_l_v : List Int) (g_newest : Int) (g_any : Bool) (g_forgotten : Int) (g_forgot : Bool) : Option (List Leaf) :=
  one ((↑(List.length g_l_k) : Int)) fun x3430 =>
  chk (decide ((0 : Int) = Int.ofNat (0 : Nat)) && true) <|
  L5
    (fun i3431 r3432 =>
     br (Nat.beq 0 i3431)
       (un_li r3432 fun x3433 r3434 =>
        un_li r3434 fun x3435 r3436 =>
        un_li r3436 fun x3437 r3438 =>
        un_i r3438 fun x3439 r3440 =>
        un_b r3440 fun x3441 r3442 =>
        un_i r3442 fun x3443 r3444 =>
        un_b r3444 fun x3445 r3446 =>
        un_nil r3446 <|
        chk (decide (Int.ofNat (List.length x3437) = Int.ofNat (List.length x3437)) && true) <|
        out (vec_Of x3437) fun r3447 =>
        un_li r3447 fun x3448 r3449 =>
        un_li r3449 fun x3450 r3451 =>
        un_nil r3451 <|
        chk (decide (Int.ofNat (List.length x3448) = Int.ofNat (List.length x3448)) && true) <|
        some [.li (x3433), .li (x3435), .li (x3448), .li (x3450), .i (x3439), .b (x3441), .i (x3443), .b (x3445)])
       (none))
    (fun r3452 =>
     un_nil r3452 <|
     none)
    top (g_l_k) (g_l_v) ([]) (g_newest) (g_any) (g_forgotten) (g_forgot) (g_newest) (x3430)
def got_Cells (g_l_k : List Int) (g_l_v : List Int) (g_newest : Int) (g_any : Bool) (g_forgotten : Int) (g_forgot : Bool) : Option (List Leaf) := got_Cells_d @got_Cells_5_L g_l_k g_l_v g_newest g_any g_forgotten g_forgot
end Go.Sx.T

