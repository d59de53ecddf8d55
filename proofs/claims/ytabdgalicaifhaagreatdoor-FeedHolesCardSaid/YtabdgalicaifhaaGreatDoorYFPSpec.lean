import Derived.Test.YtabdgalicaifhaaGreatDoorYFeedSpec
import Derived.Test.YtabdgalicaifhaaGreatDoorYOld
set_option linter.all false
namespace Go.Sx.T
open Go Go.Sx
def feed_Put (f_got_k : List Int) (f_got_v : List Int) (f_lost_k : List Int) (f_lost_v : List Bool) (f_closed : List Int) (f_r : Int) (f_any : Bool) (f_now : Int) (f_first : Int) (f_newest : Int) (f_count : Int) (f_event : Bool) (f_eventAt : Int) (f_eventN : Int) (f_bytes : Int) (f_since : Int) (now : Int) (n2 : Int) (size : Int) : Option (List Leaf) :=
  out (seq_Of n2) fun r3264 =>
  un_i r3264 fun x3265 r3266 =>
  un_nil r3266 <|
  one (minI now 4611686018427387904) fun x3267 =>
  one (maxI f_now x3267) fun x3268 =>
  one (mget 0 f_got_k f_got_v x3265) fun x3269 =>
  br (mhas f_got_k x3265)
    (chk (decide (Int.ofNat (List.length f_closed) = Int.ofNat (List.length f_closed)) && true && true) <|
     some [.li (f_got_k), .li (f_got_v), .li (f_lost_k), .lb (f_lost_v), .li (f_closed), .i (f_r), .b (f_any), .i (x3268), .i (f_first), .i (f_newest), .i (f_count), .b (f_event), .i (f_eventAt), .i (f_eventN), .i (f_bytes), .i (f_since), .b (false)])
    (br (mget false f_lost_k f_lost_v x3265)
       (chk (decide (Int.ofNat (List.length f_closed) = Int.ofNat (List.length f_closed)) && true && true) <|
        some [.li (f_got_k), .li (f_got_v), .li (f_lost_k), .lb (f_lost_v), .li (f_closed), .i (f_r), .b (f_any), .i (x3268), .i (f_first), .i (f_newest), .i (f_count), .b (f_event), .i (f_eventAt), .i (f_eventN), .i (f_bytes), .i (f_since), .b (false)])
       (br (f_any)
          (out (seq_Diff f_newest x3265) fun r3270 =>
           un_i r3270 fun x3271 r3272 =>
           un_nil r3272 <|
           br (decide (x3271 ≥ 250))
             (chk (decide (Int.ofNat (List.length f_closed) = Int.ofNat (List.length f_closed)) && true && true) <|
              some [.li (f_got_k), .li (f_got_v), .li (f_lost_k), .lb (f_lost_v), .li (f_closed), .i (f_r), .b (f_any), .i (x3268), .i (f_first), .i (f_newest), .i (f_count), .b (f_event), .i (f_eventAt), .i (f_eventN), .i (f_bytes), .i (f_since), .b (false)])
             (br (!f_any)
                (one (maxI size 0) fun x3273 =>
                 one (minI x3273 65535) fun x3274 =>
                 one (wrapI .u64 x3274) fun x3275 =>
                 one (addI .u64 f_bytes x3275) fun x3276 =>
                 out (seq_Less x3265 x3265) fun r3277 =>
                 un_b r3277 fun x3278 r3279 =>
                 un_nil r3279 <|
                 br (x3278)
                   (chk (decide (Int.ofNat (List.length f_closed) = Int.ofNat (List.length f_closed)) && true && true) <|
                    out (feed_old (mputK f_got_k x3265) (mputV f_got_k f_got_v x3265 x3268) f_lost_k f_lost_v f_closed f_r true x3268 x3265 x3265 f_count f_event f_eventAt f_eventN x3276 x3268) fun r3280 =>
                    un_li r3280 fun x3281 r3282 =>
                    un_li r3282 fun x3283 r3284 =>
                    un_li r3284 fun x3285 r3286 =>
                    un_lb r3286 fun x3287 r3288 =>
                    un_li r3288 fun x3289 r3290 =>
                    un_i r3290 fun x3291 r3292 =>
                    un_b r3292 fun x3293 r3294 =>
                    un_i r3294 fun x3295 r3296 =>
                    un_i r3296 fun x3297 r3298 =>
                    un_i r3298 fun x3299 r3300 =>
                    un_i r3300 fun x3301 r3302 =>
                    un_b r3302 fun x3303 r3304 =>
                    un_i r3304 fun x3305 r3306 =>
                    un_i r3306 fun x3307 r3308 =>
                    un_i r3308 fun x3309 r3310 =>
                    un_i r3310 fun x3311 r3312 =>
                    un_nil r3312 <|
                    chk (decide (Int.ofNat (List.length x3289) = Int.ofNat (List.length x3289)) && true && true) <|
                    out (feed_look x3281 x3283 x3285 x3287 x3289 x3291 x3293 x3295 x3297 x3299 x3301 x3303 x3305 x3307 x3309 x3311) fun r3313 =>
                    un_li r3313 fun x3314 r3315 =>
                    un_li r3315 fun x3316 r3317 =>
                    un_li r3317 fun x3318 r3319 =>
                    un_lb r3319 fun x3320 r3321 =>
                    un_li r3321 fun x3322 r3323 =>
                    un_i r3323 fun x3324 r3325 =>
                    un_b r3325 fun x3326 r3327 =>
                    un_i r3327 fun x3328 r3329 =>
                    un_i r3329 fun x3330 r3331 =>
                    un_i r3331 fun x3332 r3333 =>
                    un_i r3333 fun x3334 r3335 =>
                    un_b r3335 fun x3336 r3337 =>
                    un_i r3337 fun x3338 r3339 =>
                    un_i r3339 fun x3340 r3341 =>
                    un_i r3341 fun x3342 r3343 =>
                    un_i r3343 fun x3344 r3345 =>
                    un_nil r3345 <|
                    chk (decide (Int.ofNat (List.length x3322) = Int.ofNat (List.length x3322)) && true && true) <|
                    some [.li (x3314), .li (x3316), .li (x3318), .lb (x3320), .li (x3322), .i (x3324), .b (x3326), .i (x3328), .i (x3330), .i (x3332), .i (x3334), .b (x3336), .i (x3338), .i (x3340), .i (x3342), .i (x3344), .b (true)])
                   (chk (decide (Int.ofNat (List.length f_closed) = Int.ofNat (List.length f_closed)) && true && true) <|
                    out (feed_look (mputK f_got_k x3265) (mputV f_got_k f_got_v x3265 x3268) f_lost_k f_lost_v f_closed f_r true x3268 x3265 x3265 f_count f_event f_eventAt f_eventN x3276 x3268) fun r3346 =>
                    un_li r3346 fun x3347 r3348 =>
                    un_li r3348 fun x3349 r3350 =>
                    un_li r3350 fun x3351 r3352 =>
                    un_lb r3352 fun x3353 r3354 =>
                    un_li r3354 fun x3355 r3356 =>
                    un_i r3356 fun x3357 r3358 =>
                    un_b r3358 fun x3359 r3360 =>
                    un_i r3360 fun x3361 r3362 =>
                    un_i r3362 fun x3363 r3364 =>
                    un_i r3364 fun x3365 r3366 =>
                    un_i r3366 fun x3367 r3368 =>
                    un_b r3368 fun x3369 r3370 =>
                    un_i r3370 fun x3371 r3372 =>
                    un_i r3372 fun x3373 r3374 =>
                    un_i r3374 fun x3375 r3376 =>
                    un_i r3376 fun x3377 r3378 =>
                    un_nil r3378 <|
                    chk (decide (Int.ofNat (List.length x3355) = Int.ofNat (List.length x3355)) && true && true) <|
                    some [.li (x3347), .li (x3349), .li (x3351), .lb (x3353), .li (x3355), .i (x3357), .b (x3359), .i (x3361), .i (x3363), .i (x3365), .i (x3367), .b (x3369), .i (x3371), .i (x3373), .i (x3375), .i (x3377), .b (true)]))
                (one (maxI size 0) fun x3379 =>
                 one (minI x3379 65535) fun x3380 =>
                 one (wrapI .u64 x3380) fun x3381 =>
                 one (addI .u64 f_bytes x3381) fun x3382 =>
                 out (seq_Less f_newest x3265) fun r3383 =>
                 un_b r3383 fun x3384 r3385 =>
                 un_nil r3385 <|
                 br (x3384)
                   (chk (decide (Int.ofNat (List.length f_closed) = Int.ofNat (List.length f_closed)) && true && true) <|
                    out (feed_old (mputK f_got_k x3265) (mputV f_got_k f_got_v x3265 x3268) f_lost_k f_lost_v f_closed f_r f_any x3268 f_first x3265 f_count f_event f_eventAt f_eventN x3382 f_since) fun r3386 =>
                    un_li r3386 fun x3387 r3388 =>
                    un_li r3388 fun x3389 r3390 =>
                    un_li r3390 fun x3391 r3392 =>
                    un_lb r3392 fun x3393 r3394 =>
                    un_li r3394 fun x3395 r3396 =>
                    un_i r3396 fun x3397 r3398 =>
                    un_b r3398 fun x3399 r3400 =>
                    un_i r3400 fun x3401 r3402 =>
                    un_i r3402 fun x3403 r3404 =>
                    un_i r3404 fun x3405 r3406 =>
                    un_i r3406 fun x3407 r3408 =>
                    un_b r3408 fun x3409 r3410 =>
                    un_i r3410 fun x3411 r3412 =>
                    un_i r3412 fun x3413 r3414 =>
                    un_i r3414 fun x3415 r3416 =>
                    un_i r3416 fun x3417 r3418 =>
                    un_nil r3418 <|
                    chk (decide (Int.ofNat (List.length x3395) = Int.ofNat (List.length x3395)) && true && true) <|
                    out (feed_look x3387 x3389 x3391 x3393 x3395 x3397 x3399 x3401 x3403 x3405 x3407 x3409 x3411 x3413 x3415 x3417) fun r3419 =>
                    un_li r3419 fun x3420 r3421 =>
                    un_li r3421 fun x3422 r3423 =>
                    un_li r3423 fun x3424 r3425 =>
                    un_lb r3425 fun x3426 r3427 =>
                    un_li r3427 fun x3428 r3429 =>
                    un_i r3429 fun x3430 r3431 =>
                    un_b r3431 fun x3432 r3433 =>
                    un_i r3433 fun x3434 r3435 =>
                    un_i r3435 fun x3436 r3437 =>
                    un_i r3437 fun x3438 r3439 =>
                    un_i r3439 fun x3440 r3441 =>
                    un_b r3441 fun x3442 r3443 =>
                    un_i r3443 fun x3444 r3445 =>
                    un_i r3445 fun x3446 r3447 =>
                    un_i r3447 fun x3448 r3449 =>
                    un_i r3449 fun x3450 r3451 =>
                    un_nil r3451 <|
                    chk (decide (Int.ofNat (List.length x3428) = Int.ofNat (List.length x3428)) && true && true) <|
                    some [.li (x3420), .li (x3422), .li (x3424), .lb (x3426), .li (x3428), .i (x3430), .b (x3432), .i (x3434), .i (x3436), .i (x3438), .i (x3440), .b (x3442), .i (x3444), .i (x3446), .i (x3448), .i (x3450), .b (true)])
                   (chk (decide (Int.ofNat (List.length f_closed) = Int.ofNat (List.length f_closed)) && true && true) <|
                    out (feed_look (mputK f_got_k x3265) (mputV f_got_k f_got_v x3265 x3268) f_lost_k f_lost_v f_closed f_r f_any x3268 f_first f_newest f_count f_event f_eventAt f_eventN x3382 f_since) fun r3452 =>
                    un_li r3452 fun x3453 r3454 =>
                    un_li r3454 fun x3455 r3456 =>
                    un_li r3456 fun x3457 r3458 =>
                    un_lb r3458 fun x3459 r3460 =>
                    un_li r3460 fun x3461 r3462 =>
                    un_i r3462 fun x3463 r3464 =>
                    un_b r3464 fun x3465 r3466 =>
                    un_i r3466 fun x3467 r3468 =>
                    un_i r3468 fun x3469 r3470 =>
                    un_i r3470 fun x3471 r3472 =>
                    un_i r3472 fun x3473 r3474 =>
                    un_b r3474 fun x3475 r3476 =>
                    un_i r3476 fun x3477 r3478 =>
                    un_i r3478 fun x3479 r3480 =>
                    un_i r3480 fun x3481 r3482 =>
                    un_i r3482 fun x3483 r3484 =>
                    un_nil r3484 <|
                    chk (decide (Int.ofNat (List.length x3461) = Int.ofNat (List.length x3461)) && true && true) <|
                    some [.li (x3453), .li (x3455), .li (x3457), .lb (x3459), .li (x3461), .i (x3463), .b (x3465), .i (x3467), .i (x3469), .i (x3471), .i (x3473), .b (x3475), .i (x3477), .i (x3479), .i (x3481), .i (x3483), .b (true)]))))
          (br (!f_any)
             (one (maxI size 0) fun x3485 =>
              one (minI x3485 65535) fun x3486 =>
              one (wrapI .u64 x3486) fun x3487 =>
              one (addI .u64 f_bytes x3487) fun x3488 =>
              out (seq_Less x3265 x3265) fun r3489 =>
              un_b r3489 fun x3490 r3491 =>
              un_nil r3491 <|
              br (x3490)
                (chk (decide (Int.ofNat (List.length f_closed) = Int.ofNat (List.length f_closed)) && true && true) <|
                 out (feed_old (mputK f_got_k x3265) (mputV f_got_k f_got_v x3265 x3268) f_lost_k f_lost_v f_closed f_r true x3268 x3265 x3265 f_count f_event f_eventAt f_eventN x3488 x3268) fun r3492 =>
                 un_li r3492 fun x3493 r3494 =>
                 un_li r3494 fun x3495 r3496 =>
                 un_li r3496 fun x3497 r3498 =>
                 un_lb r3498 fun x3499 r3500 =>
                 un_li r3500 fun x3501 r3502 =>
                 un_i r3502 fun x3503 r3504 =>
                 un_b r3504 fun x3505 r3506 =>
                 un_i r3506 fun x3507 r3508 =>
                 un_i r3508 fun x3509 r3510 =>
                 un_i r3510 fun x3511 r3512 =>
                 un_i r3512 fun x3513 r3514 =>
                 un_b r3514 fun x3515 r3516 =>
                 un_i r3516 fun x3517 r3518 =>
                 un_i r3518 fun x3519 r3520 =>
                 un_i r3520 fun x3521 r3522 =>
                 un_i r3522 fun x3523 r3524 =>
                 un_nil r3524 <|
                 chk (decide (Int.ofNat (List.length x3501) = Int.ofNat (List.length x3501)) && true && true) <|
                 out (feed_look x3493 x3495 x3497 x3499 x3501 x3503 x3505 x3507 x3509 x3511 x3513 x3515 x3517 x3519 x3521 x3523) fun r3525 =>
                 un_li r3525 fun x3526 r3527 =>
                 un_li r3527 fun x3528 r3529 =>
                 un_li r3529 fun x3530 r3531 =>
                 un_lb r3531 fun x3532 r3533 =>
                 un_li r3533 fun x3534 r3535 =>
                 un_i r3535 fun x3536 r3537 =>
                 un_b r3537 fun x3538 r3539 =>
                 un_i r3539 fun x3540 r3541 =>
                 un_i r3541 fun x3542 r3543 =>
                 un_i r3543 fun x3544 r3545 =>
                 un_i r3545 fun x3546 r3547 =>
                 un_b r3547 fun x3548 r3549 =>
                 un_i r3549 fun x3550 r3551 =>
                 un_i r3551 fun x3552 r3553 =>
                 un_i r3553 fun x3554 r3555 =>
                 un_i r3555 fun x3556 r3557 =>
                 un_nil r3557 <|
                 chk (decide (Int.ofNat (List.length x3534) = Int.ofNat (List.length x3534)) && true && true) <|
                 some [.li (x3526), .li (x3528), .li (x3530), .lb (x3532), .li (x3534), .i (x3536), .b (x3538), .i (x3540), .i (x3542), .i (x3544), .i (x3546), .b (x3548), .i (x3550), .i (x3552), .i (x3554), .i (x3556), .b (true)])
                (chk (decide (Int.ofNat (List.length f_closed) = Int.ofNat (List.length f_closed)) && true && true) <|
                 out (feed_look (mputK f_got_k x3265) (mputV f_got_k f_got_v x3265 x3268) f_lost_k f_lost_v f_closed f_r true x3268 x3265 x3265 f_count f_event f_eventAt f_eventN x3488 x3268) fun r3558 =>
                 un_li r3558 fun x3559 r3560 =>
                 un_li r3560 fun x3561 r3562 =>
                 un_li r3562 fun x3563 r3564 =>
                 un_lb r3564 fun x3565 r3566 =>
                 un_li r3566 fun x3567 r3568 =>
                 un_i r3568 fun x3569 r3570 =>
                 un_b r3570 fun x3571 r3572 =>
                 un_i r3572 fun x3573 r3574 =>
                 un_i r3574 fun x3575 r3576 =>
                 un_i r3576 fun x3577 r3578 =>
                 un_i r3578 fun x3579 r3580 =>
                 un_b r3580 fun x3581 r3582 =>
                 un_i r3582 fun x3583 r3584 =>
                 un_i r3584 fun x3585 r3586 =>
                 un_i r3586 fun x3587 r3588 =>
                 un_i r3588 fun x3589 r3590 =>
                 un_nil r3590 <|
                 chk (decide (Int.ofNat (List.length x3567) = Int.ofNat (List.length x3567)) && true && true) <|
                 some [.li (x3559), .li (x3561), .li (x3563), .lb (x3565), .li (x3567), .i (x3569), .b (x3571), .i (x3573), .i (x3575), .i (x3577), .i (x3579), .b (x3581), .i (x3583), .i (x3585), .i (x3587), .i (x3589), .b (true)]))
             (one (maxI size 0) fun x3591 =>
              one (minI x3591 65535) fun x3592 =>
              one (wrapI .u64 x3592) fun x3593 =>
              one (addI .u64 f_bytes x3593) fun x3594 =>
              out (seq_Less f_newest x3265) fun r3595 =>
              un_b r3595 fun x3596 r3597 =>
              un_nil r3597 <|
              br (x3596)
                (chk (decide (Int.ofNat (List.length f_closed) = Int.ofNat (List.length f_closed)) && true && true) <|
                 out (feed_old (mputK f_got_k x3265) (mputV f_got_k f_got_v x3265 x3268) f_lost_k f_lost_v f_closed f_r f_any x3268 f_first x3265 f_count f_event f_eventAt f_eventN x3594 f_since) fun r3598 =>
                 un_li r3598 fun x3599 r3600 =>
                 un_li r3600 fun x3601 r3602 =>
                 un_li r3602 fun x3603 r3604 =>
                 un_lb r3604 fun x3605 r3606 =>
                 un_li r3606 fun x3607 r3608 =>
                 un_i r3608 fun x3609 r3610 =>
                 un_b r3610 fun x3611 r3612 =>
                 un_i r3612 fun x3613 r3614 =>
                 un_i r3614 fun x3615 r3616 =>
                 un_i r3616 fun x3617 r3618 =>
                 un_i r3618 fun x3619 r3620 =>
                 un_b r3620 fun x3621 r3622 =>
                 un_i r3622 fun x3623 r3624 =>
                 un_i r3624 fun x3625 r3626 =>
                 un_i r3626 fun x3627 r3628 =>
                 un_i r3628 fun x3629 r3630 =>
                 un_nil r3630 <|
                 chk (decide (Int.ofNat (List.length x3607) = Int.ofNat (List.length x3607)) && true && true) <|
                 out (feed_look x3599 x3601 x3603 x3605 x3607 x3609 x3611 x3613 x3615 x3617 x3619 x3621 x3623 x3625 x3627 x3629) fun r3631 =>
                 un_li r3631 fun x3632 r3633 =>
                 un_li r3633 fun x3634 r3635 =>
                 un_li r3635 fun x3636 r3637 =>
                 un_lb r3637 fun x3638 r3639 =>
                 un_li r3639 fun x3640 r3641 =>
                 un_i r3641 fun x3642 r3643 =>
                 un_b r3643 fun x3644 r3645 =>
                 un_i r3645 fun x3646 r3647 =>
                 un_i r3647 fun x3648 r3649 =>
                 un_i r3649 fun x3650 r3651 =>
                 un_i r3651 fun x3652 r3653 =>
                 un_b r3653 fun x3654 r3655 =>
                 un_i r3655 fun x3656 r3657 =>
                 un_i r3657 fun x3658 r3659 =>
                 un_i r3659 fun x3660 r3661 =>
                 un_i r3661 fun x3662 r3663 =>
                 un_nil r3663 <|
                 chk (decide (Int.ofNat (List.length x3640) = Int.ofNat (List.length x3640)) && true && true) <|
                 some [.li (x3632), .li (x3634), .li (x3636), .lb (x3638), .li (x3640), .i (x3642), .b (x3644), .i (x3646), .i (x3648), .i (x3650), .i (x3652), .b (x3654), .i (x3656), .i (x3658), .i (x3660), .i (x3662), .b (true)])
                (chk (decide (Int.ofNat (List.length f_closed) = Int.ofNat (List.length f_closed)) && true && true) <|
                 out (feed_look (mputK f_got_k x3265) (mputV f_got_k f_got_v x3265 x3268) f_lost_k f_lost_v f_closed f_r f_any x3268 f_first f_newest f_count f_event f_eventAt f_eventN x3594 f_since) fun r3664 =>
                 un_li r3664 fun x3665 r3666 =>
                 un_li r3666 fun x3667 r3668 =>
                 un_li r3668 fun x3669 r3670 =>
                 un_lb r3670 fun x3671 r3672 =>
                 un_li r3672 fun x3673 r3674 =>
                 un_i r3674 fun x3675 r3676 =>
                 un_b r3676 fun x3677 r3678 =>
                 un_i r3678 fun x3679 r3680 =>
                 un_i r3680 fun x3681 r3682 =>
                 un_i r3682 fun x3683 r3684 =>
                 un_i r3684 fun x3685 r3686 =>
                 un_b r3686 fun x3687 r3688 =>
                 un_i r3688 fun x3689 r3690 =>
                 un_i r3690 fun x3691 r3692 =>
                 un_i r3692 fun x3693 r3694 =>
                 un_i r3694 fun x3695 r3696 =>
                 un_nil r3696 <|
                 chk (decide (Int.ofNat (List.length x3673) = Int.ofNat (List.length x3673)) && true && true) <|
                 some [.li (x3665), .li (x3667), .li (x3669), .lb (x3671), .li (x3673), .i (x3675), .b (x3677), .i (x3679), .i (x3681), .i (x3683), .i (x3685), .b (x3687), .i (x3689), .i (x3691), .i (x3693), .i (x3695), .b (true)])))))
end Go.Sx.T

