import Derived.Test.YtdjnfdcoilgegaaGreatDoorYNegoSpec
import Derived.Test.YtdjnfdcoilgegaaGreatDoorYR18Spec
set_option linter.all false
namespace Go.Sx.T
open Go Go.Sx
def NegoTwo_10_B  {α : Type} (kx : Nat → List Leaf → Option α) (kr : List Leaf → Option α) (again : List Bool → List Int → List ByteArray → List Int → List ByteArray → List Int → List ByteArray → List Int → List ByteArray → List Int → List ByteArray → List Int → List ByteArray → List Int → List ByteArray → List Int → List ByteArray → List Int → List ByteArray → List Int → List ByteArray → Bool → Bool → Int → ByteArray → ByteArray → ByteArray → ByteArray → Option α) (lost : List Bool) (x_want_k : List Int) (x_want_v : List ByteArray) (x_like_k : List Int) (x_like_v : List ByteArray) (x_mine_k : List Int) (x_mine_v : List ByteArray) (x_theirs_k : List Int) (x_theirs_v : List ByteArray) (x_due0 : List Int) (x_due1 : List ByteArray) (y_want_k : List Int) (y_want_v : List ByteArray) (y_like_k : List Int) (y_like_v : List ByteArray) (y_mine_k : List Int) (y_mine_v : List ByteArray) (y_theirs_k : List Int) (y_theirs_v : List ByteArray) (y_due0 : List Int) (y_due1 : List ByteArray) (x_server : Bool) (y_server : Bool) (i : Int) (d : ByteArray) (c : ByteArray) (a : ByteArray) (b : ByteArray) : Option α :=
  br (decide (i < 60))
    (chk (decide (Int.ofNat (List.length x_due0) = Int.ofNat (List.length x_due0)) && true && true) <|
     out (nego_Opts x_want_k x_want_v x_like_k x_like_v x_mine_k x_mine_v x_theirs_k x_theirs_v x_due0 x_due1 x_server) fun r3410 =>
     un_li r3410 fun x3411 r3412 =>
     un_ls r3412 fun x3413 r3414 =>
     un_li r3414 fun x3415 r3416 =>
     un_ls r3416 fun x3417 r3418 =>
     un_li r3418 fun x3419 r3420 =>
     un_ls r3420 fun x3421 r3422 =>
     un_li r3422 fun x3423 r3424 =>
     un_ls r3424 fun x3425 r3426 =>
     un_li r3426 fun x3427 r3428 =>
     un_ls r3428 fun x3429 r3430 =>
     un_li r3430 fun x3431 r3432 =>
     un_ls r3432 fun x3433 r3434 =>
     un_b r3434 fun x3435 r3436 =>
     un_nil r3436 <|
     br (decide (i < 20))
       (one (mulI .i64 2 i) fun x3437 =>
        one (Int.ofNat (List.length lost)) fun x3438 =>
        br (decide (x3437 < x3438))
          (one (mulI .i64 2 i) fun x3439 =>
           chk (decide ((0 : Int) ≤ x3439 ∧ x3439 < Int.ofNat (List.length lost))) <|
           chk (decide ((0 : Int) ≤ x3439 ∧ x3439 < Int.ofNat (List.length lost))) <|
           br (List.getD lost (Int.toNat x3439) false == false)
             (chk (decide (Int.ofNat (List.length y_due0) = Int.ofNat (List.length y_due0)) && true && true) <|
              chk (decide (Int.ofNat (List.length x3431) = Int.ofNat (List.length x3431)) && true) <|
              out (nego_Take y_want_k y_want_v y_like_k y_like_v y_mine_k y_mine_v y_theirs_k y_theirs_v y_due0 y_due1 x3431 x3433 y_server) fun r3440 =>
              un_li r3440 fun x3441 r3442 =>
              un_ls r3442 fun x3443 r3444 =>
              un_li r3444 fun x3445 r3446 =>
              un_ls r3446 fun x3447 r3448 =>
              un_li r3448 fun x3449 r3450 =>
              un_ls r3450 fun x3451 r3452 =>
              un_li r3452 fun x3453 r3454 =>
              un_ls r3454 fun x3455 r3456 =>
              un_li r3456 fun x3457 r3458 =>
              un_ls r3458 fun x3459 r3460 =>
              un_b r3460 fun x3461 r3462 =>
              un_b r3462 fun x3463 r3464 =>
              un_nil r3464 <|
              br (!x3463)
                (kr [.lb (lost), .b (false)])
                (chk (decide (Int.ofNat (List.length x3457) = Int.ofNat (List.length x3457)) && true && true) <|
                 out (nego_Opts x3441 x3443 x3445 x3447 x3449 x3451 x3453 x3455 x3457 x3459 x3461) fun r3465 =>
                 un_li r3465 fun x3466 r3467 =>
                 un_ls r3467 fun x3468 r3469 =>
                 un_li r3469 fun x3470 r3471 =>
                 un_ls r3471 fun x3472 r3473 =>
                 un_li r3473 fun x3474 r3475 =>
                 un_ls r3475 fun x3476 r3477 =>
                 un_li r3477 fun x3478 r3479 =>
                 un_ls r3479 fun x3480 r3481 =>
                 un_li r3481 fun x3482 r3483 =>
                 un_ls r3483 fun x3484 r3485 =>
                 un_li r3485 fun x3486 r3487 =>
                 un_ls r3487 fun x3488 r3489 =>
                 un_b r3489 fun x3490 r3491 =>
                 un_nil r3491 <|
                 br (decide (i < 20))
                   (one (mulI .i64 2 i) fun x3492 =>
                    one (addI .i64 x3492 1) fun x3493 =>
                    one (Int.ofNat (List.length lost)) fun x3494 =>
                    br (decide (x3493 < x3494))
                      (one (mulI .i64 2 i) fun x3495 =>
                       one (addI .i64 x3495 1) fun x3496 =>
                       chk (decide ((0 : Int) ≤ x3496 ∧ x3496 < Int.ofNat (List.length lost))) <|
                       chk (decide ((0 : Int) ≤ x3496 ∧ x3496 < Int.ofNat (List.length lost))) <|
                       br (List.getD lost (Int.toNat x3496) false == false)
                         (chk (decide (Int.ofNat (List.length x3427) = Int.ofNat (List.length x3427)) && true && true) <|
                          chk (decide (Int.ofNat (List.length x3486) = Int.ofNat (List.length x3486)) && true) <|
                          out (nego_Take x3411 x3413 x3415 x3417 x3419 x3421 x3423 x3425 x3427 x3429 x3486 x3488 x3435) fun r3497 =>
                          un_li r3497 fun x3498 r3499 =>
                          un_ls r3499 fun x3500 r3501 =>
                          un_li r3501 fun x3502 r3503 =>
                          un_ls r3503 fun x3504 r3505 =>
                          un_li r3505 fun x3506 r3507 =>
                          un_ls r3507 fun x3508 r3509 =>
                          un_li r3509 fun x3510 r3511 =>
                          un_ls r3511 fun x3512 r3513 =>
                          un_li r3513 fun x3514 r3515 =>
                          un_ls r3515 fun x3516 r3517 =>
                          un_b r3517 fun x3518 r3519 =>
                          un_b r3519 fun x3520 r3521 =>
                          un_nil r3521 <|
                          br (!x3520)
                            (kr [.lb (lost), .b (false)])
                            (one (addI .i64 i 1) fun x3522 =>
                             chk (decide (Int.ofNat (List.length x3514) = Int.ofNat (List.length x3514)) && true && (decide (Int.ofNat (List.length x3482) = Int.ofNat (List.length x3482)) && true && true)) <|
                             chk (decide (Int.ofNat (List.length lost) = Int.ofNat (List.length lost)) && true) <|
                             again (lost) (x3498) (x3500) (x3502) (x3504) (x3506) (x3508) (x3510) (x3512) (x3514) (x3516) (x3466) (x3468) (x3470) (x3472) (x3474) (x3476) (x3478) (x3480) (x3482) (x3484) (x3518) (x3490) (x3522) (d) (c) (a) (b)))
                         (one (addI .i64 i 1) fun x3523 =>
                          chk (decide (Int.ofNat (List.length x3427) = Int.ofNat (List.length x3427)) && true && (decide (Int.ofNat (List.length x3482) = Int.ofNat (List.length x3482)) && true && true)) <|
                          chk (decide (Int.ofNat (List.length lost) = Int.ofNat (List.length lost)) && true) <|
                          again (lost) (x3411) (x3413) (x3415) (x3417) (x3419) (x3421) (x3423) (x3425) (x3427) (x3429) (x3466) (x3468) (x3470) (x3472) (x3474) (x3476) (x3478) (x3480) (x3482) (x3484) (x3435) (x3490) (x3523) (d) (c) (a) (b)))
                      (chk (decide (Int.ofNat (List.length x3427) = Int.ofNat (List.length x3427)) && true && true) <|
                       chk (decide (Int.ofNat (List.length x3486) = Int.ofNat (List.length x3486)) && true) <|
                       out (nego_Take x3411 x3413 x3415 x3417 x3419 x3421 x3423 x3425 x3427 x3429 x3486 x3488 x3435) fun r3524 =>
                       un_li r3524 fun x3525 r3526 =>
                       un_ls r3526 fun x3527 r3528 =>
                       un_li r3528 fun x3529 r3530 =>
                       un_ls r3530 fun x3531 r3532 =>
                       un_li r3532 fun x3533 r3534 =>
                       un_ls r3534 fun x3535 r3536 =>
                       un_li r3536 fun x3537 r3538 =>
                       un_ls r3538 fun x3539 r3540 =>
                       un_li r3540 fun x3541 r3542 =>
                       un_ls r3542 fun x3543 r3544 =>
                       un_b r3544 fun x3545 r3546 =>
                       un_b r3546 fun x3547 r3548 =>
                       un_nil r3548 <|
                       br (!x3547)
                         (kr [.lb (lost), .b (false)])
                         (one (addI .i64 i 1) fun x3549 =>
                          chk (decide (Int.ofNat (List.length x3541) = Int.ofNat (List.length x3541)) && true && (decide (Int.ofNat (List.length x3482) = Int.ofNat (List.length x3482)) && true && true)) <|
                          chk (decide (Int.ofNat (List.length lost) = Int.ofNat (List.length lost)) && true) <|
                          again (lost) (x3525) (x3527) (x3529) (x3531) (x3533) (x3535) (x3537) (x3539) (x3541) (x3543) (x3466) (x3468) (x3470) (x3472) (x3474) (x3476) (x3478) (x3480) (x3482) (x3484) (x3545) (x3490) (x3549) (d) (c) (a) (b))))
                   (chk (decide (Int.ofNat (List.length x3427) = Int.ofNat (List.length x3427)) && true && true) <|
                    chk (decide (Int.ofNat (List.length x3486) = Int.ofNat (List.length x3486)) && true) <|
                    out (nego_Take x3411 x3413 x3415 x3417 x3419 x3421 x3423 x3425 x3427 x3429 x3486 x3488 x3435) fun r3550 =>
                    un_li r3550 fun x3551 r3552 =>
                    un_ls r3552 fun x3553 r3554 =>
                    un_li r3554 fun x3555 r3556 =>
                    un_ls r3556 fun x3557 r3558 =>
                    un_li r3558 fun x3559 r3560 =>
                    un_ls r3560 fun x3561 r3562 =>
                    un_li r3562 fun x3563 r3564 =>
                    un_ls r3564 fun x3565 r3566 =>
                    un_li r3566 fun x3567 r3568 =>
                    un_ls r3568 fun x3569 r3570 =>
                    un_b r3570 fun x3571 r3572 =>
                    un_b r3572 fun x3573 r3574 =>
                    un_nil r3574 <|
                    br (!x3573)
                      (kr [.lb (lost), .b (false)])
                      (one (addI .i64 i 1) fun x3575 =>
                       chk (decide (Int.ofNat (List.length x3567) = Int.ofNat (List.length x3567)) && true && (decide (Int.ofNat (List.length x3482) = Int.ofNat (List.length x3482)) && true && true)) <|
                       chk (decide (Int.ofNat (List.length lost) = Int.ofNat (List.length lost)) && true) <|
                       again (lost) (x3551) (x3553) (x3555) (x3557) (x3559) (x3561) (x3563) (x3565) (x3567) (x3569) (x3466) (x3468) (x3470) (x3472) (x3474) (x3476) (x3478) (x3480) (x3482) (x3484) (x3571) (x3490) (x3575) (d) (c) (a) (b)))))
             (chk (decide (Int.ofNat (List.length y_due0) = Int.ofNat (List.length y_due0)) && true && true) <|
              out (nego_Opts y_want_k y_want_v y_like_k y_like_v y_mine_k y_mine_v y_theirs_k y_theirs_v y_due0 y_due1 y_server) fun r3576 =>
              un_li r3576 fun x3577 r3578 =>
              un_ls r3578 fun x3579 r3580 =>
              un_li r3580 fun x3581 r3582 =>
              un_ls r3582 fun x3583 r3584 =>
              un_li r3584 fun x3585 r3586 =>
              un_ls r3586 fun x3587 r3588 =>
              un_li r3588 fun x3589 r3590 =>
              un_ls r3590 fun x3591 r3592 =>
              un_li r3592 fun x3593 r3594 =>
              un_ls r3594 fun x3595 r3596 =>
              un_li r3596 fun x3597 r3598 =>
              un_ls r3598 fun x3599 r3600 =>
              un_b r3600 fun x3601 r3602 =>
              un_nil r3602 <|
              br (decide (i < 20))
                (one (mulI .i64 2 i) fun x3603 =>
                 one (addI .i64 x3603 1) fun x3604 =>
                 one (Int.ofNat (List.length lost)) fun x3605 =>
                 br (decide (x3604 < x3605))
                   (one (mulI .i64 2 i) fun x3606 =>
                    one (addI .i64 x3606 1) fun x3607 =>
                    chk (decide ((0 : Int) ≤ x3607 ∧ x3607 < Int.ofNat (List.length lost))) <|
                    chk (decide ((0 : Int) ≤ x3607 ∧ x3607 < Int.ofNat (List.length lost))) <|
                    br (List.getD lost (Int.toNat x3607) false == false)
                      (chk (decide (Int.ofNat (List.length x3427) = Int.ofNat (List.length x3427)) && true && true) <|
                       chk (decide (Int.ofNat (List.length x3597) = Int.ofNat (List.length x3597)) && true) <|
                       out (nego_Take x3411 x3413 x3415 x3417 x3419 x3421 x3423 x3425 x3427 x3429 x3597 x3599 x3435) fun r3608 =>
                       un_li r3608 fun x3609 r3610 =>
                       un_ls r3610 fun x3611 r3612 =>
                       un_li r3612 fun x3613 r3614 =>
                       un_ls r3614 fun x3615 r3616 =>
                       un_li r3616 fun x3617 r3618 =>
                       un_ls r3618 fun x3619 r3620 =>
                       un_li r3620 fun x3621 r3622 =>
                       un_ls r3622 fun x3623 r3624 =>
                       un_li r3624 fun x3625 r3626 =>
                       un_ls r3626 fun x3627 r3628 =>
                       un_b r3628 fun x3629 r3630 =>
                       un_b r3630 fun x3631 r3632 =>
                       un_nil r3632 <|
                       br (!x3631)
                         (kr [.lb (lost), .b (false)])
                         (one (addI .i64 i 1) fun x3633 =>
                          chk (decide (Int.ofNat (List.length x3625) = Int.ofNat (List.length x3625)) && true && (decide (Int.ofNat (List.length x3593) = Int.ofNat (List.length x3593)) && true && true)) <|
                          chk (decide (Int.ofNat (List.length lost) = Int.ofNat (List.length lost)) && true) <|
                          again (lost) (x3609) (x3611) (x3613) (x3615) (x3617) (x3619) (x3621) (x3623) (x3625) (x3627) (x3577) (x3579) (x3581) (x3583) (x3585) (x3587) (x3589) (x3591) (x3593) (x3595) (x3629) (x3601) (x3633) (d) (c) (a) (b)))
                      (one (addI .i64 i 1) fun x3634 =>
                       chk (decide (Int.ofNat (List.length x3427) = Int.ofNat (List.length x3427)) && true && (decide (Int.ofNat (List.length x3593) = Int.ofNat (List.length x3593)) && true && true)) <|
                       chk (decide (Int.ofNat (List.length lost) = Int.ofNat (List.length lost)) && true) <|
                       again (lost) (x3411) (x3413) (x3415) (x3417) (x3419) (x3421) (x3423) (x3425) (x3427) (x3429) (x3577) (x3579) (x3581) (x3583) (x3585) (x3587) (x3589) (x3591) (x3593) (x3595) (x3435) (x3601) (x3634) (d) (c) (a) (b)))
                   (chk (decide (Int.ofNat (List.length x3427) = Int.ofNat (List.length x3427)) && true && true) <|
                    chk (decide (Int.ofNat (List.length x3597) = Int.ofNat (List.length x3597)) && true) <|
                    out (nego_Take x3411 x3413 x3415 x3417 x3419 x3421 x3423 x3425 x3427 x3429 x3597 x3599 x3435) fun r3635 =>
                    un_li r3635 fun x3636 r3637 =>
                    un_ls r3637 fun x3638 r3639 =>
                    un_li r3639 fun x3640 r3641 =>
                    un_ls r3641 fun x3642 r3643 =>
                    un_li r3643 fun x3644 r3645 =>
                    un_ls r3645 fun x3646 r3647 =>
                    un_li r3647 fun x3648 r3649 =>
                    un_ls r3649 fun x3650 r3651 =>
                    un_li r3651 fun x3652 r3653 =>
                    un_ls r3653 fun x3654 r3655 =>
                    un_b r3655 fun x3656 r3657 =>
                    un_b r3657 fun x3658 r3659 =>
                    un_nil r3659 <|
                    br (!x3658)
                      (kr [.lb (lost), .b (false)])
                      (one (addI .i64 i 1) fun x3660 =>
                       chk (decide (Int.ofNat (List.length x3652) = Int.ofNat (List.length x3652)) && true && (decide (Int.ofNat (List.length x3593) = Int.ofNat (List.length x3593)) && true && true)) <|
                       chk (decide (Int.ofNat (List.length lost) = Int.ofNat (List.length lost)) && true) <|
                       again (lost) (x3636) (x3638) (x3640) (x3642) (x3644) (x3646) (x3648) (x3650) (x3652) (x3654) (x3577) (x3579) (x3581) (x3583) (x3585) (x3587) (x3589) (x3591) (x3593) (x3595) (x3656) (x3601) (x3660) (d) (c) (a) (b))))
                (chk (decide (Int.ofNat (List.length x3427) = Int.ofNat (List.length x3427)) && true && true) <|
                 chk (decide (Int.ofNat (List.length x3597) = Int.ofNat (List.length x3597)) && true) <|
                 out (nego_Take x3411 x3413 x3415 x3417 x3419 x3421 x3423 x3425 x3427 x3429 x3597 x3599 x3435) fun r3661 =>
                 un_li r3661 fun x3662 r3663 =>
                 un_ls r3663 fun x3664 r3665 =>
                 un_li r3665 fun x3666 r3667 =>
                 un_ls r3667 fun x3668 r3669 =>
                 un_li r3669 fun x3670 r3671 =>
                 un_ls r3671 fun x3672 r3673 =>
                 un_li r3673 fun x3674 r3675 =>
                 un_ls r3675 fun x3676 r3677 =>
                 un_li r3677 fun x3678 r3679 =>
                 un_ls r3679 fun x3680 r3681 =>
                 un_b r3681 fun x3682 r3683 =>
                 un_b r3683 fun x3684 r3685 =>
                 un_nil r3685 <|
                 br (!x3684)
                   (kr [.lb (lost), .b (false)])
                   (one (addI .i64 i 1) fun x3686 =>
                    chk (decide (Int.ofNat (List.length x3678) = Int.ofNat (List.length x3678)) && true && (decide (Int.ofNat (List.length x3593) = Int.ofNat (List.length x3593)) && true && true)) <|
                    chk (decide (Int.ofNat (List.length lost) = Int.ofNat (List.length lost)) && true) <|
                    again (lost) (x3662) (x3664) (x3666) (x3668) (x3670) (x3672) (x3674) (x3676) (x3678) (x3680) (x3577) (x3579) (x3581) (x3583) (x3585) (x3587) (x3589) (x3591) (x3593) (x3595) (x3682) (x3601) (x3686) (d) (c) (a) (b)))))
          (chk (decide (Int.ofNat (List.length y_due0) = Int.ofNat (List.length y_due0)) && true && true) <|
           chk (decide (Int.ofNat (List.length x3431) = Int.ofNat (List.length x3431)) && true) <|
           out (nego_Take y_want_k y_want_v y_like_k y_like_v y_mine_k y_mine_v y_theirs_k y_theirs_v y_due0 y_due1 x3431 x3433 y_server) fun r3687 =>
           un_li r3687 fun x3688 r3689 =>
           un_ls r3689 fun x3690 r3691 =>
           un_li r3691 fun x3692 r3693 =>
           un_ls r3693 fun x3694 r3695 =>
           un_li r3695 fun x3696 r3697 =>
           un_ls r3697 fun x3698 r3699 =>
           un_li r3699 fun x3700 r3701 =>
           un_ls r3701 fun x3702 r3703 =>
           un_li r3703 fun x3704 r3705 =>
           un_ls r3705 fun x3706 r3707 =>
           un_b r3707 fun x3708 r3709 =>
           un_b r3709 fun x3710 r3711 =>
           un_nil r3711 <|
           br (!x3710)
             (kr [.lb (lost), .b (false)])
             (chk (decide (Int.ofNat (List.length x3704) = Int.ofNat (List.length x3704)) && true && true) <|
              out (nego_Opts x3688 x3690 x3692 x3694 x3696 x3698 x3700 x3702 x3704 x3706 x3708) fun r3712 =>
              un_li r3712 fun x3713 r3714 =>
              un_ls r3714 fun x3715 r3716 =>
              un_li r3716 fun x3717 r3718 =>
              un_ls r3718 fun x3719 r3720 =>
              un_li r3720 fun x3721 r3722 =>
              un_ls r3722 fun x3723 r3724 =>
              un_li r3724 fun x3725 r3726 =>
              un_ls r3726 fun x3727 r3728 =>
              un_li r3728 fun x3729 r3730 =>
              un_ls r3730 fun x3731 r3732 =>
              un_li r3732 fun x3733 r3734 =>
              un_ls r3734 fun x3735 r3736 =>
              un_b r3736 fun x3737 r3738 =>
              un_nil r3738 <|
              br (decide (i < 20))
                (one (mulI .i64 2 i) fun x3739 =>
                 one (addI .i64 x3739 1) fun x3740 =>
                 one (Int.ofNat (List.length lost)) fun x3741 =>
                 br (decide (x3740 < x3741))
                   (one (mulI .i64 2 i) fun x3742 =>
                    one (addI .i64 x3742 1) fun x3743 =>
                    chk (decide ((0 : Int) ≤ x3743 ∧ x3743 < Int.ofNat (List.length lost))) <|
                    chk (decide ((0 : Int) ≤ x3743 ∧ x3743 < Int.ofNat (List.length lost))) <|
                    br (List.getD lost (Int.toNat x3743) false == false)
                      (chk (decide (Int.ofNat (List.length x3427) = Int.ofNat (List.length x3427)) && true && true) <|
                       chk (decide (Int.ofNat (List.length x3733) = Int.ofNat (List.length x3733)) && true) <|
                       out (nego_Take x3411 x3413 x3415 x3417 x3419 x3421 x3423 x3425 x3427 x3429 x3733 x3735 x3435) fun r3744 =>
                       un_li r3744 fun x3745 r3746 =>
                       un_ls r3746 fun x3747 r3748 =>
                       un_li r3748 fun x3749 r3750 =>
                       un_ls r3750 fun x3751 r3752 =>
                       un_li r3752 fun x3753 r3754 =>
                       un_ls r3754 fun x3755 r3756 =>
                       un_li r3756 fun x3757 r3758 =>
                       un_ls r3758 fun x3759 r3760 =>
                       un_li r3760 fun x3761 r3762 =>
                       un_ls r3762 fun x3763 r3764 =>
                       un_b r3764 fun x3765 r3766 =>
                       un_b r3766 fun x3767 r3768 =>
                       un_nil r3768 <|
                       br (!x3767)
                         (kr [.lb (lost), .b (false)])
                         (one (addI .i64 i 1) fun x3769 =>
                          chk (decide (Int.ofNat (List.length x3761) = Int.ofNat (List.length x3761)) && true && (decide (Int.ofNat (List.length x3729) = Int.ofNat (List.length x3729)) && true && true)) <|
                          chk (decide (Int.ofNat (List.length lost) = Int.ofNat (List.length lost)) && true) <|
                          again (lost) (x3745) (x3747) (x3749) (x3751) (x3753) (x3755) (x3757) (x3759) (x3761) (x3763) (x3713) (x3715) (x3717) (x3719) (x3721) (x3723) (x3725) (x3727) (x3729) (x3731) (x3765) (x3737) (x3769) (d) (c) (a) (b)))
                      (one (addI .i64 i 1) fun x3770 =>
                       chk (decide (Int.ofNat (List.length x3427) = Int.ofNat (List.length x3427)) && true && (decide (Int.ofNat (List.length x3729) = Int.ofNat (List.length x3729)) && true && true)) <|
                       chk (decide (Int.ofNat (List.length lost) = Int.ofNat (List.length lost)) && true) <|
                       again (lost) (x3411) (x3413) (x3415) (x3417) (x3419) (x3421) (x3423) (x3425) (x3427) (x3429) (x3713) (x3715) (x3717) (x3719) (x3721) (x3723) (x3725) (x3727) (x3729) (x3731) (x3435) (x3737) (x3770) (d) (c) (a) (b)))
                   (chk (decide (Int.ofNat (List.length x3427) = Int.ofNat (List.length x3427)) && true && true) <|
                    chk (decide (Int.ofNat (List.length x3733) = Int.ofNat (List.length x3733)) && true) <|
                    out (nego_Take x3411 x3413 x3415 x3417 x3419 x3421 x3423 x3425 x3427 x3429 x3733 x3735 x3435) fun r3771 =>
                    un_li r3771 fun x3772 r3773 =>
                    un_ls r3773 fun x3774 r3775 =>
                    un_li r3775 fun x3776 r3777 =>
                    un_ls r3777 fun x3778 r3779 =>
                    un_li r3779 fun x3780 r3781 =>
                    un_ls r3781 fun x3782 r3783 =>
                    un_li r3783 fun x3784 r3785 =>
                    un_ls r3785 fun x3786 r3787 =>
                    un_li r3787 fun x3788 r3789 =>
                    un_ls r3789 fun x3790 r3791 =>
                    un_b r3791 fun x3792 r3793 =>
                    un_b r3793 fun x3794 r3795 =>
                    un_nil r3795 <|
                    br (!x3794)
                      (kr [.lb (lost), .b (false)])
                      (one (addI .i64 i 1) fun x3796 =>
                       chk (decide (Int.ofNat (List.length x3788) = Int.ofNat (List.length x3788)) && true && (decide (Int.ofNat (List.length x3729) = Int.ofNat (List.length x3729)) && true && true)) <|
                       chk (decide (Int.ofNat (List.length lost) = Int.ofNat (List.length lost)) && true) <|
                       again (lost) (x3772) (x3774) (x3776) (x3778) (x3780) (x3782) (x3784) (x3786) (x3788) (x3790) (x3713) (x3715) (x3717) (x3719) (x3721) (x3723) (x3725) (x3727) (x3729) (x3731) (x3792) (x3737) (x3796) (d) (c) (a) (b))))
                (chk (decide (Int.ofNat (List.length x3427) = Int.ofNat (List.length x3427)) && true && true) <|
                 chk (decide (Int.ofNat (List.length x3733) = Int.ofNat (List.length x3733)) && true) <|
                 out (nego_Take x3411 x3413 x3415 x3417 x3419 x3421 x3423 x3425 x3427 x3429 x3733 x3735 x3435) fun r3797 =>
                 un_li r3797 fun x3798 r3799 =>
                 un_ls r3799 fun x3800 r3801 =>
                 un_li r3801 fun x3802 r3803 =>
                 un_ls r3803 fun x3804 r3805 =>
                 un_li r3805 fun x3806 r3807 =>
                 un_ls r3807 fun x3808 r3809 =>
                 un_li r3809 fun x3810 r3811 =>
                 un_ls r3811 fun x3812 r3813 =>
                 un_li r3813 fun x3814 r3815 =>
                 un_ls r3815 fun x3816 r3817 =>
                 un_b r3817 fun x3818 r3819 =>
                 un_b r3819 fun x3820 r3821 =>
                 un_nil r3821 <|
                 br (!x3820)
                   (kr [.lb (lost), .b (false)])
                   (one (addI .i64 i 1) fun x3822 =>
                    chk (decide (Int.ofNat (List.length x3814) = Int.ofNat (List.length x3814)) && true && (decide (Int.ofNat (List.length x3729) = Int.ofNat (List.length x3729)) && true && true)) <|
                    chk (decide (Int.ofNat (List.length lost) = Int.ofNat (List.length lost)) && true) <|
                    again (lost) (x3798) (x3800) (x3802) (x3804) (x3806) (x3808) (x3810) (x3812) (x3814) (x3816) (x3713) (x3715) (x3717) (x3719) (x3721) (x3723) (x3725) (x3727) (x3729) (x3731) (x3818) (x3737) (x3822) (d) (c) (a) (b))))))
       (chk (decide (Int.ofNat (List.length y_due0) = Int.ofNat (List.length y_due0)) && true && true) <|
        chk (decide (Int.ofNat (List.length x3431) = Int.ofNat (List.length x3431)) && true) <|
        out (nego_Take y_want_k y_want_v y_like_k y_like_v y_mine_k y_mine_v y_theirs_k y_theirs_v y_due0 y_due1 x3431 x3433 y_server) fun r3823 =>
        un_li r3823 fun x3824 r3825 =>
        un_ls r3825 fun x3826 r3827 =>
        un_li r3827 fun x3828 r3829 =>
        un_ls r3829 fun x3830 r3831 =>
        un_li r3831 fun x3832 r3833 =>
        un_ls r3833 fun x3834 r3835 =>
        un_li r3835 fun x3836 r3837 =>
        un_ls r3837 fun x3838 r3839 =>
        un_li r3839 fun x3840 r3841 =>
        un_ls r3841 fun x3842 r3843 =>
        un_b r3843 fun x3844 r3845 =>
        un_b r3845 fun x3846 r3847 =>
        un_nil r3847 <|
        br (!x3846)
          (kr [.lb (lost), .b (false)])
          (chk (decide (Int.ofNat (List.length x3840) = Int.ofNat (List.length x3840)) && true && true) <|
           out (nego_Opts x3824 x3826 x3828 x3830 x3832 x3834 x3836 x3838 x3840 x3842 x3844) fun r3848 =>
           un_li r3848 fun x3849 r3850 =>
           un_ls r3850 fun x3851 r3852 =>
           un_li r3852 fun x3853 r3854 =>
           un_ls r3854 fun x3855 r3856 =>
           un_li r3856 fun x3857 r3858 =>
           un_ls r3858 fun x3859 r3860 =>
           un_li r3860 fun x3861 r3862 =>
           un_ls r3862 fun x3863 r3864 =>
           un_li r3864 fun x3865 r3866 =>
           un_ls r3866 fun x3867 r3868 =>
           un_li r3868 fun x3869 r3870 =>
           un_ls r3870 fun x3871 r3872 =>
           un_b r3872 fun x3873 r3874 =>
           un_nil r3874 <|
           br (decide (i < 20))
             (one (mulI .i64 2 i) fun x3875 =>
              one (addI .i64 x3875 1) fun x3876 =>
              one (Int.ofNat (List.length lost)) fun x3877 =>
              br (decide (x3876 < x3877))
                (one (mulI .i64 2 i) fun x3878 =>
                 one (addI .i64 x3878 1) fun x3879 =>
                 chk (decide ((0 : Int) ≤ x3879 ∧ x3879 < Int.ofNat (List.length lost))) <|
                 chk (decide ((0 : Int) ≤ x3879 ∧ x3879 < Int.ofNat (List.length lost))) <|
                 br (List.getD lost (Int.toNat x3879) false == false)
                   (chk (decide (Int.ofNat (List.length x3427) = Int.ofNat (List.length x3427)) && true && true) <|
                    chk (decide (Int.ofNat (List.length x3869) = Int.ofNat (List.length x3869)) && true) <|
                    out (nego_Take x3411 x3413 x3415 x3417 x3419 x3421 x3423 x3425 x3427 x3429 x3869 x3871 x3435) fun r3880 =>
                    un_li r3880 fun x3881 r3882 =>
                    un_ls r3882 fun x3883 r3884 =>
                    un_li r3884 fun x3885 r3886 =>
                    un_ls r3886 fun x3887 r3888 =>
                    un_li r3888 fun x3889 r3890 =>
                    un_ls r3890 fun x3891 r3892 =>
                    un_li r3892 fun x3893 r3894 =>
                    un_ls r3894 fun x3895 r3896 =>
                    un_li r3896 fun x3897 r3898 =>
                    un_ls r3898 fun x3899 r3900 =>
                    un_b r3900 fun x3901 r3902 =>
                    un_b r3902 fun x3903 r3904 =>
                    un_nil r3904 <|
                    br (!x3903)
                      (kr [.lb (lost), .b (false)])
                      (one (addI .i64 i 1) fun x3905 =>
                       chk (decide (Int.ofNat (List.length x3897) = Int.ofNat (List.length x3897)) && true && (decide (Int.ofNat (List.length x3865) = Int.ofNat (List.length x3865)) && true && true)) <|
                       chk (decide (Int.ofNat (List.length lost) = Int.ofNat (List.length lost)) && true) <|
                       again (lost) (x3881) (x3883) (x3885) (x3887) (x3889) (x3891) (x3893) (x3895) (x3897) (x3899) (x3849) (x3851) (x3853) (x3855) (x3857) (x3859) (x3861) (x3863) (x3865) (x3867) (x3901) (x3873) (x3905) (d) (c) (a) (b)))
                   (one (addI .i64 i 1) fun x3906 =>
                    chk (decide (Int.ofNat (List.length x3427) = Int.ofNat (List.length x3427)) && true && (decide (Int.ofNat (List.length x3865) = Int.ofNat (List.length x3865)) && true && true)) <|
                    chk (decide (Int.ofNat (List.length lost) = Int.ofNat (List.length lost)) && true) <|
                    again (lost) (x3411) (x3413) (x3415) (x3417) (x3419) (x3421) (x3423) (x3425) (x3427) (x3429) (x3849) (x3851) (x3853) (x3855) (x3857) (x3859) (x3861) (x3863) (x3865) (x3867) (x3435) (x3873) (x3906) (d) (c) (a) (b)))
                (chk (decide (Int.ofNat (List.length x3427) = Int.ofNat (List.length x3427)) && true && true) <|
                 chk (decide (Int.ofNat (List.length x3869) = Int.ofNat (List.length x3869)) && true) <|
                 out (nego_Take x3411 x3413 x3415 x3417 x3419 x3421 x3423 x3425 x3427 x3429 x3869 x3871 x3435) fun r3907 =>
                 un_li r3907 fun x3908 r3909 =>
                 un_ls r3909 fun x3910 r3911 =>
                 un_li r3911 fun x3912 r3913 =>
                 un_ls r3913 fun x3914 r3915 =>
                 un_li r3915 fun x3916 r3917 =>
                 un_ls r3917 fun x3918 r3919 =>
                 un_li r3919 fun x3920 r3921 =>
                 un_ls r3921 fun x3922 r3923 =>
                 un_li r3923 fun x3924 r3925 =>
                 un_ls r3925 fun x3926 r3927 =>
                 un_b r3927 fun x3928 r3929 =>
                 un_b r3929 fun x3930 r3931 =>
                 un_nil r3931 <|
                 br (!x3930)
                   (kr [.lb (lost), .b (false)])
                   (one (addI .i64 i 1) fun x3932 =>
                    chk (decide (Int.ofNat (List.length x3924) = Int.ofNat (List.length x3924)) && true && (decide (Int.ofNat (List.length x3865) = Int.ofNat (List.length x3865)) && true && true)) <|
                    chk (decide (Int.ofNat (List.length lost) = Int.ofNat (List.length lost)) && true) <|
                    again (lost) (x3908) (x3910) (x3912) (x3914) (x3916) (x3918) (x3920) (x3922) (x3924) (x3926) (x3849) (x3851) (x3853) (x3855) (x3857) (x3859) (x3861) (x3863) (x3865) (x3867) (x3928) (x3873) (x3932) (d) (c) (a) (b))))
             (chk (decide (Int.ofNat (List.length x3427) = Int.ofNat (List.length x3427)) && true && true) <|
              chk (decide (Int.ofNat (List.length x3869) = Int.ofNat (List.length x3869)) && true) <|
              out (nego_Take x3411 x3413 x3415 x3417 x3419 x3421 x3423 x3425 x3427 x3429 x3869 x3871 x3435) fun r3933 =>
              un_li r3933 fun x3934 r3935 =>
              un_ls r3935 fun x3936 r3937 =>
              un_li r3937 fun x3938 r3939 =>
              un_ls r3939 fun x3940 r3941 =>
              un_li r3941 fun x3942 r3943 =>
              un_ls r3943 fun x3944 r3945 =>
              un_li r3945 fun x3946 r3947 =>
              un_ls r3947 fun x3948 r3949 =>
              un_li r3949 fun x3950 r3951 =>
              un_ls r3951 fun x3952 r3953 =>
              un_b r3953 fun x3954 r3955 =>
              un_b r3955 fun x3956 r3957 =>
              un_nil r3957 <|
              br (!x3956)
                (kr [.lb (lost), .b (false)])
                (one (addI .i64 i 1) fun x3958 =>
                 chk (decide (Int.ofNat (List.length x3950) = Int.ofNat (List.length x3950)) && true && (decide (Int.ofNat (List.length x3865) = Int.ofNat (List.length x3865)) && true && true)) <|
                 chk (decide (Int.ofNat (List.length lost) = Int.ofNat (List.length lost)) && true) <|
                 again (lost) (x3934) (x3936) (x3938) (x3940) (x3942) (x3944) (x3946) (x3948) (x3950) (x3952) (x3849) (x3851) (x3853) (x3855) (x3857) (x3859) (x3861) (x3863) (x3865) (x3867) (x3954) (x3873) (x3958) (d) (c) (a) (b))))))
    (chk (decide (Int.ofNat (List.length x_due0) = Int.ofNat (List.length x_due0)) && true && (decide (Int.ofNat (List.length y_due0) = Int.ofNat (List.length y_due0)) && true && true)) <|
     kx 0 [.lb (lost), .li (x_want_k), .ls (x_want_v), .li (x_like_k), .ls (x_like_v), .li (x_mine_k), .ls (x_mine_v), .li (x_theirs_k), .ls (x_theirs_v), .li (x_due0), .ls (x_due1), .li (y_want_k), .ls (y_want_v), .li (y_like_k), .ls (y_like_v), .li (y_mine_k), .ls (y_mine_v), .li (y_theirs_k), .ls (y_theirs_v), .li (y_due0), .ls (y_due1), .b (x_server), .b (y_server), .s (d), .s (c), .s (a), .s (b)])
def NegoTwo_10_L {α : Type} (kx : Nat → List Leaf → Option α) (kr : List Leaf → Option α) : Nat → List Bool → List Int → List ByteArray → List Int → List ByteArray → List Int → List ByteArray → List Int → List ByteArray → List Int → List ByteArray → List Int → List ByteArray → List Int → List ByteArray → List Int → List ByteArray → List Int → List ByteArray → List Int → List ByteArray → Bool → Bool → Int → ByteArray → ByteArray → ByteArray → ByteArray → Option α
  | 0, _, _, _, _, _, _, _, _, _, _, _, _, _, _, _, _, _, _, _, _, _, _, _, _, _, _, _, _ => none
  | n + 1, lost, x_want_k, x_want_v, x_like_k, x_like_v, x_mine_k, x_mine_v, x_theirs_k, x_theirs_v, x_due0, x_due1, y_want_k, y_want_v, y_like_k, y_like_v, y_mine_k, y_mine_v, y_theirs_k, y_theirs_v, y_due0, y_due1, x_server, y_server, i, d, c, a, b => NegoTwo_10_B  kx kr (NegoTwo_10_L kx kr n) lost x_want_k x_want_v x_like_k x_like_v x_mine_k x_mine_v x_theirs_k x_theirs_v x_due0 x_due1 y_want_k y_want_v y_like_k y_like_v y_mine_k y_mine_v y_theirs_k y_theirs_v y_due0 y_due1 x_server y_server i d c a b
def NegoTwo_10_F (L10 : ({β : Type} → (Nat → List Leaf → Option β) → (List Leaf → Option β) → Nat → List Bool → List Int → List ByteArray → List Int → List ByteArray → List Int → List ByteArray → List Int → List ByteArray → List Int → List ByteArray → List Int → List ByteArray → List Int → List ByteArray → List Int → List ByteArray → List Int → List ByteArray → List Int → List ByteArray → Bool → Bool → Int → ByteArray → ByteArray → ByteArray → ByteArray → Option β)) {α : Type} (n : Nat) (ls : List Leaf) (kx : Nat → List Leaf → Option α) (kr : List Leaf → Option α) : Option α := un_lb ls fun lost rr => un_li rr fun x_want_k rr => un_ls rr fun x_want_v rr => un_li rr fun x_like_k rr => un_ls rr fun x_like_v rr => un_li rr fun x_mine_k rr => un_ls rr fun x_mine_v rr => un_li rr fun x_theirs_k rr => un_ls rr fun x_theirs_v rr => un_li rr fun x_due0 rr => un_ls rr fun x_due1 rr => un_li rr fun y_want_k rr => un_ls rr fun y_want_v rr => un_li rr fun y_like_k rr => un_ls rr fun y_like_v rr => un_li rr fun y_mine_k rr => un_ls rr fun y_mine_v rr => un_li rr fun y_theirs_k rr => un_ls rr fun y_theirs_v rr => un_li rr fun y_due0 rr => un_ls rr fun y_due1 rr => un_b rr fun x_server rr => un_b rr fun y_server rr => un_i rr fun i rr => un_s rr fun d rr => un_s rr fun c rr => un_s rr fun a rr => un_s rr fun b rr => un_nil rr (L10 kx kr n lost x_want_k x_want_v x_like_k x_like_v x_mine_k x_mine_v x_theirs_k x_theirs_v x_due0 x_due1 y_want_k y_want_v y_like_k y_like_v y_mine_k y_mine_v y_theirs_k y_theirs_v y_due0 y_due1 x_server y_server i d c a b)
def NegoTwo_d (L10 : ({β : Type} → (Nat → List Leaf → Option β) → (List Leaf → Option β) → Nat → List Bool → List Int → List ByteArray → List Int → List ByteArray → List Int → List ByteArray → List Int → List ByteArray → List Int → List ByteArray → List Int → List ByteArray → List Int → List ByteArray → List Int → List ByteArray → List Int → List ByteArray → List Int → List ByteArray → Bool → Bool → Int → ByteArray → ByteArray → ByteArray → ByteArray → Option β)) (lost : List Bool) (a : ByteArray) (b : ByteArray) (c : ByteArray) (d : ByteArray) : Option (List Leaf) :=
  out (nego_New false) fun r3959 =>
  un_li r3959 fun x3960 r3961 =>
  un_ls r3961 fun x3962 r3963 =>
  un_li r3963 fun x3964 r3965 =>
  un_ls r3965 fun x3966 r3967 =>
  un_li r3967 fun x3968 r3969 =>
  un_ls r3969 fun x3970 r3971 =>
  un_li r3971 fun x3972 r3973 =>
  un_ls r3973 fun x3974 r3975 =>
  un_li r3975 fun x3976 r3977 =>
  un_ls r3977 fun x3978 r3979 =>
  un_b r3979 fun x3980 r3981 =>
  un_nil r3981 <|
  out (nego_New true) fun r3982 =>
  un_li r3982 fun x3983 r3984 =>
  un_ls r3984 fun x3985 r3986 =>
  un_li r3986 fun x3987 r3988 =>
  un_ls r3988 fun x3989 r3990 =>
  un_li r3990 fun x3991 r3992 =>
  un_ls r3992 fun x3993 r3994 =>
  un_li r3994 fun x3995 r3996 =>
  un_ls r3996 fun x3997 r3998 =>
  un_li r3998 fun x3999 r4000 =>
  un_ls r4000 fun x4001 r4002 =>
  un_b r4002 fun x4003 r4004 =>
  un_nil r4004 <|
  out (r18_May 1 a) fun r4005 =>
  un_b r4005 fun x4006 r4007 =>
  un_nil r4007 <|
  br (!x4006)
    (chk (decide (Int.ofNat (List.length x3976) = Int.ofNat (List.length x3976)) && true && true) <|
     out (nego_Want x3960 x3962 x3964 x3966 x3968 x3970 x3972 x3974 x3976 x3978 x3980 1 { data := #[] }) fun r4008 =>
     un_li r4008 fun x4009 r4010 =>
     un_ls r4010 fun x4011 r4012 =>
     un_li r4012 fun x4013 r4014 =>
     un_ls r4014 fun x4015 r4016 =>
     un_li r4016 fun x4017 r4018 =>
     un_ls r4018 fun x4019 r4020 =>
     un_li r4020 fun x4021 r4022 =>
     un_ls r4022 fun x4023 r4024 =>
     un_li r4024 fun x4025 r4026 =>
     un_ls r4026 fun x4027 r4028 =>
     un_b r4028 fun x4029 r4030 =>
     un_i r4030 fun x4031 r4032 =>
     un_nil r4032 <|
     some [.b (x4031 == 3)])
    (out (r18_May 1 b) fun r4033 =>
     un_b r4033 fun x4034 r4035 =>
     un_nil r4035 <|
     br (!x4034)
       (chk (decide (Int.ofNat (List.length x3976) = Int.ofNat (List.length x3976)) && true && true) <|
        out (nego_Want x3960 x3962 x3964 x3966 x3968 x3970 x3972 x3974 x3976 x3978 x3980 1 { data := #[] }) fun r4036 =>
        un_li r4036 fun x4037 r4038 =>
        un_ls r4038 fun x4039 r4040 =>
        un_li r4040 fun x4041 r4042 =>
        un_ls r4042 fun x4043 r4044 =>
        un_li r4044 fun x4045 r4046 =>
        un_ls r4046 fun x4047 r4048 =>
        un_li r4048 fun x4049 r4050 =>
        un_ls r4050 fun x4051 r4052 =>
        un_li r4052 fun x4053 r4054 =>
        un_ls r4054 fun x4055 r4056 =>
        un_b r4056 fun x4057 r4058 =>
        un_i r4058 fun x4059 r4060 =>
        un_nil r4060 <|
        some [.b (x4059 == 3)])
       (out (r18_May 1 c) fun r4061 =>
        un_b r4061 fun x4062 r4063 =>
        un_nil r4063 <|
        br (!x4062)
          (chk (decide (Int.ofNat (List.length x3976) = Int.ofNat (List.length x3976)) && true && true) <|
           out (nego_Want x3960 x3962 x3964 x3966 x3968 x3970 x3972 x3974 x3976 x3978 x3980 1 { data := #[] }) fun r4064 =>
           un_li r4064 fun x4065 r4066 =>
           un_ls r4066 fun x4067 r4068 =>
           un_li r4068 fun x4069 r4070 =>
           un_ls r4070 fun x4071 r4072 =>
           un_li r4072 fun x4073 r4074 =>
           un_ls r4074 fun x4075 r4076 =>
           un_li r4076 fun x4077 r4078 =>
           un_ls r4078 fun x4079 r4080 =>
           un_li r4080 fun x4081 r4082 =>
           un_ls r4082 fun x4083 r4084 =>
           un_b r4084 fun x4085 r4086 =>
           un_i r4086 fun x4087 r4088 =>
           un_nil r4088 <|
           some [.b (x4087 == 3)])
          (out (r18_May 1 d) fun r4089 =>
           un_b r4089 fun x4090 r4091 =>
           un_nil r4091 <|
           br (!x4090)
             (chk (decide (Int.ofNat (List.length x3976) = Int.ofNat (List.length x3976)) && true && true) <|
              out (nego_Want x3960 x3962 x3964 x3966 x3968 x3970 x3972 x3974 x3976 x3978 x3980 1 { data := #[] }) fun r4092 =>
              un_li r4092 fun x4093 r4094 =>
              un_ls r4094 fun x4095 r4096 =>
              un_li r4096 fun x4097 r4098 =>
              un_ls r4098 fun x4099 r4100 =>
              un_li r4100 fun x4101 r4102 =>
              un_ls r4102 fun x4103 r4104 =>
              un_li r4104 fun x4105 r4106 =>
              un_ls r4106 fun x4107 r4108 =>
              un_li r4108 fun x4109 r4110 =>
              un_ls r4110 fun x4111 r4112 =>
              un_b r4112 fun x4113 r4114 =>
              un_i r4114 fun x4115 r4116 =>
              un_nil r4116 <|
              some [.b (x4115 == 3)])
             (chk (decide (Int.ofNat (List.length x3976) = Int.ofNat (List.length x3976)) && true && true) <|
              out (nego_Want x3960 x3962 x3964 x3966 x3968 x3970 x3972 x3974 x3976 x3978 x3980 1 a) fun r4117 =>
              un_li r4117 fun x4118 r4119 =>
              un_ls r4119 fun x4120 r4121 =>
              un_li r4121 fun x4122 r4123 =>
              un_ls r4123 fun x4124 r4125 =>
              un_li r4125 fun x4126 r4127 =>
              un_ls r4127 fun x4128 r4129 =>
              un_li r4129 fun x4130 r4131 =>
              un_ls r4131 fun x4132 r4133 =>
              un_li r4133 fun x4134 r4135 =>
              un_ls r4135 fun x4136 r4137 =>
              un_b r4137 fun x4138 r4139 =>
              un_i r4139 fun x4140 r4141 =>
              un_nil r4141 <|
              br (x4140 != 0)
                (some [.b (false)])
                (chk (decide (Int.ofNat (List.length x3999) = Int.ofNat (List.length x3999)) && true && true) <|
                 out (nego_Like x3983 x3985 x3987 x3989 x3991 x3993 x3995 x3997 x3999 x4001 x4003 1 b) fun r4142 =>
                 un_li r4142 fun x4143 r4144 =>
                 un_ls r4144 fun x4145 r4146 =>
                 un_li r4146 fun x4147 r4148 =>
                 un_ls r4148 fun x4149 r4150 =>
                 un_li r4150 fun x4151 r4152 =>
                 un_ls r4152 fun x4153 r4154 =>
                 un_li r4154 fun x4155 r4156 =>
                 un_ls r4156 fun x4157 r4158 =>
                 un_li r4158 fun x4159 r4160 =>
                 un_ls r4160 fun x4161 r4162 =>
                 un_b r4162 fun x4163 r4164 =>
                 un_i r4164 fun x4165 r4166 =>
                 un_nil r4166 <|
                 br (x4165 != 0)
                   (some [.b (false)])
                   (chk (decide (Int.ofNat (List.length x4159) = Int.ofNat (List.length x4159)) && true && true) <|
                    out (nego_Want x4143 x4145 x4147 x4149 x4151 x4153 x4155 x4157 x4159 x4161 x4163 1 c) fun r4167 =>
                    un_li r4167 fun x4168 r4169 =>
                    un_ls r4169 fun x4170 r4171 =>
                    un_li r4171 fun x4172 r4173 =>
                    un_ls r4173 fun x4174 r4175 =>
                    un_li r4175 fun x4176 r4177 =>
                    un_ls r4177 fun x4178 r4179 =>
                    un_li r4179 fun x4180 r4181 =>
                    un_ls r4181 fun x4182 r4183 =>
                    un_li r4183 fun x4184 r4185 =>
                    un_ls r4185 fun x4186 r4187 =>
                    un_b r4187 fun x4188 r4189 =>
                    un_i r4189 fun x4190 r4191 =>
                    un_nil r4191 <|
                    br (x4190 != 0)
                      (some [.b (false)])
                      (chk (decide (Int.ofNat (List.length x4134) = Int.ofNat (List.length x4134)) && true && true) <|
                       out (nego_Like x4118 x4120 x4122 x4124 x4126 x4128 x4130 x4132 x4134 x4136 x4138 1 d) fun r4192 =>
                       un_li r4192 fun x4193 r4194 =>
                       un_ls r4194 fun x4195 r4196 =>
                       un_li r4196 fun x4197 r4198 =>
                       un_ls r4198 fun x4199 r4200 =>
                       un_li r4200 fun x4201 r4202 =>
                       un_ls r4202 fun x4203 r4204 =>
                       un_li r4204 fun x4205 r4206 =>
                       un_ls r4206 fun x4207 r4208 =>
                       un_li r4208 fun x4209 r4210 =>
                       un_ls r4210 fun x4211 r4212 =>
                       un_b r4212 fun x4213 r4214 =>
                       un_i r4214 fun x4215 r4216 =>
                       un_nil r4216 <|
                       br (x4215 != 0)
                         (some [.b (false)])
                         (chk (decide (Int.ofNat (List.length x4209) = Int.ofNat (List.length x4209)) && true && (decide (Int.ofNat (List.length x4184) = Int.ofNat (List.length x4184)) && true && true)) <|
                          chk (decide (Int.ofNat (List.length lost) = Int.ofNat (List.length lost)) && true) <|
                          L10
                            (fun i4217 r4218 =>
                             br (Nat.beq 0 i4217)
                               (un_lb r4218 fun x4219 r4220 =>
                                un_li r4220 fun x4221 r4222 =>
                                un_ls r4222 fun x4223 r4224 =>
                                un_li r4224 fun x4225 r4226 =>
                                un_ls r4226 fun x4227 r4228 =>
                                un_li r4228 fun x4229 r4230 =>
                                un_ls r4230 fun x4231 r4232 =>
                                un_li r4232 fun x4233 r4234 =>
                                un_ls r4234 fun x4235 r4236 =>
                                un_li r4236 fun x4237 r4238 =>
                                un_ls r4238 fun x4239 r4240 =>
                                un_li r4240 fun x4241 r4242 =>
                                un_ls r4242 fun x4243 r4244 =>
                                un_li r4244 fun x4245 r4246 =>
                                un_ls r4246 fun x4247 r4248 =>
                                un_li r4248 fun x4249 r4250 =>
                                un_ls r4250 fun x4251 r4252 =>
                                un_li r4252 fun x4253 r4254 =>
                                un_ls r4254 fun x4255 r4256 =>
                                un_li r4256 fun x4257 r4258 =>
                                un_ls r4258 fun x4259 r4260 =>
                                un_b r4260 fun x4261 r4262 =>
                                un_b r4262 fun x4263 r4264 =>
                                un_s r4264 fun x4265 r4266 =>
                                un_s r4266 fun x4267 r4268 =>
                                un_s r4268 fun x4269 r4270 =>
                                un_s r4270 fun x4271 r4272 =>
                                un_nil r4272 <|
                                out (r18_Choose 1 x4271 x4269) fun r4273 =>
                                un_s r4273 fun x4274 r4275 =>
                                un_b r4275 fun x4276 r4277 =>
                                un_nil r4277 <|
                                out (r18_Choose 1 x4267 x4265) fun r4278 =>
                                un_s r4278 fun x4279 r4280 =>
                                un_b r4280 fun x4281 r4282 =>
                                un_nil r4282 <|
                                br (!x4276)
                                  (br (!x4281)
                                     (chk (decide (Int.ofNat (List.length x4237) = Int.ofNat (List.length x4237)) && true && true) <|
                                      out (nego_Done x4221 x4223 x4225 x4227 x4229 x4231 x4233 x4235 x4237 x4239 x4261) fun r4283 =>
                                      un_b r4283 fun x4284 r4285 =>
                                      un_nil r4285 <|
                                      br (x4284)
                                        (chk (decide (Int.ofNat (List.length x4257) = Int.ofNat (List.length x4257)) && true && true) <|
                                         out (nego_Done x4241 x4243 x4245 x4247 x4249 x4251 x4253 x4255 x4257 x4259 x4263) fun r4286 =>
                                         un_b r4286 fun x4287 r4288 =>
                                         un_nil r4288 <|
                                         br (x4287)
                                           (chk (decide (Int.ofNat (List.length x4237) = Int.ofNat (List.length x4237)) && true && true) <|
                                            out (nego_Mine x4221 x4223 x4225 x4227 x4229 x4231 x4233 x4235 x4237 x4239 x4261 1) fun r4289 =>
                                            un_s r4289 fun x4290 r4291 =>
                                            un_nil r4291 <|
                                            br (x4290 == { data := #[(2 : UInt8)] })
                                              (chk (decide (Int.ofNat (List.length x4257) = Int.ofNat (List.length x4257)) && true && true) <|
                                               out (nego_Theirs x4241 x4243 x4245 x4247 x4249 x4251 x4253 x4255 x4257 x4259 x4263 1) fun r4292 =>
                                               un_s r4292 fun x4293 r4294 =>
                                               un_nil r4294 <|
                                               br (x4293 == { data := #[(2 : UInt8)] })
                                                 (chk (decide (Int.ofNat (List.length x4257) = Int.ofNat (List.length x4257)) && true && true) <|
                                                  out (nego_Mine x4241 x4243 x4245 x4247 x4249 x4251 x4253 x4255 x4257 x4259 x4263 1) fun r4295 =>
                                                  un_s r4295 fun x4296 r4297 =>
                                                  un_nil r4297 <|
                                                  br (x4296 == { data := #[(2 : UInt8)] })
                                                    (chk (decide (Int.ofNat (List.length x4237) = Int.ofNat (List.length x4237)) && true && true) <|
                                                     out (nego_Theirs x4221 x4223 x4225 x4227 x4229 x4231 x4233 x4235 x4237 x4239 x4261 1) fun r4298 =>
                                                     un_s r4298 fun x4299 r4300 =>
                                                     un_nil r4300 <|
                                                     some [.b (x4299 == { data := #[2] })])
                                                    (some [.b (false)]))
                                                 (some [.b (false)]))
                                              (some [.b (false)]))
                                           (some [.b (false)]))
                                        (some [.b (false)]))
                                     (chk (decide (Int.ofNat (List.length x4237) = Int.ofNat (List.length x4237)) && true && true) <|
                                      out (nego_Done x4221 x4223 x4225 x4227 x4229 x4231 x4233 x4235 x4237 x4239 x4261) fun r4301 =>
                                      un_b r4301 fun x4302 r4303 =>
                                      un_nil r4303 <|
                                      br (x4302)
                                        (chk (decide (Int.ofNat (List.length x4257) = Int.ofNat (List.length x4257)) && true && true) <|
                                         out (nego_Done x4241 x4243 x4245 x4247 x4249 x4251 x4253 x4255 x4257 x4259 x4263) fun r4304 =>
                                         un_b r4304 fun x4305 r4306 =>
                                         un_nil r4306 <|
                                         br (x4305)
                                           (chk (decide (Int.ofNat (List.length x4237) = Int.ofNat (List.length x4237)) && true && true) <|
                                            out (nego_Mine x4221 x4223 x4225 x4227 x4229 x4231 x4233 x4235 x4237 x4239 x4261 1) fun r4307 =>
                                            un_s r4307 fun x4308 r4309 =>
                                            un_nil r4309 <|
                                            br (x4308 == { data := #[(2 : UInt8)] })
                                              (chk (decide (Int.ofNat (List.length x4257) = Int.ofNat (List.length x4257)) && true && true) <|
                                               out (nego_Theirs x4241 x4243 x4245 x4247 x4249 x4251 x4253 x4255 x4257 x4259 x4263 1) fun r4310 =>
                                               un_s r4310 fun x4311 r4312 =>
                                               un_nil r4312 <|
                                               br (x4311 == { data := #[(2 : UInt8)] })
                                                 (chk (decide (Int.ofNat (List.length x4257) = Int.ofNat (List.length x4257)) && true && true) <|
                                                  out (nego_Mine x4241 x4243 x4245 x4247 x4249 x4251 x4253 x4255 x4257 x4259 x4263 1) fun r4313 =>
                                                  un_s r4313 fun x4314 r4315 =>
                                                  un_nil r4315 <|
                                                  br (x4314 == x4279)
                                                    (chk (decide (Int.ofNat (List.length x4237) = Int.ofNat (List.length x4237)) && true && true) <|
                                                     out (nego_Theirs x4221 x4223 x4225 x4227 x4229 x4231 x4233 x4235 x4237 x4239 x4261 1) fun r4316 =>
                                                     un_s r4316 fun x4317 r4318 =>
                                                     un_nil r4318 <|
                                                     some [.b (x4317 == x4279)])
                                                    (some [.b (false)]))
                                                 (some [.b (false)]))
                                              (some [.b (false)]))
                                           (some [.b (false)]))
                                        (some [.b (false)])))
                                  (br (!x4281)
                                     (chk (decide (Int.ofNat (List.length x4237) = Int.ofNat (List.length x4237)) && true && true) <|
                                      out (nego_Done x4221 x4223 x4225 x4227 x4229 x4231 x4233 x4235 x4237 x4239 x4261) fun r4319 =>
                                      un_b r4319 fun x4320 r4321 =>
                                      un_nil r4321 <|
                                      br (x4320)
                                        (chk (decide (Int.ofNat (List.length x4257) = Int.ofNat (List.length x4257)) && true && true) <|
                                         out (nego_Done x4241 x4243 x4245 x4247 x4249 x4251 x4253 x4255 x4257 x4259 x4263) fun r4322 =>
                                         un_b r4322 fun x4323 r4324 =>
                                         un_nil r4324 <|
                                         br (x4323)
                                           (chk (decide (Int.ofNat (List.length x4237) = Int.ofNat (List.length x4237)) && true && true) <|
                                            out (nego_Mine x4221 x4223 x4225 x4227 x4229 x4231 x4233 x4235 x4237 x4239 x4261 1) fun r4325 =>
                                            un_s r4325 fun x4326 r4327 =>
                                            un_nil r4327 <|
                                            br (x4326 == x4274)
                                              (chk (decide (Int.ofNat (List.length x4257) = Int.ofNat (List.length x4257)) && true && true) <|
                                               out (nego_Theirs x4241 x4243 x4245 x4247 x4249 x4251 x4253 x4255 x4257 x4259 x4263 1) fun r4328 =>
                                               un_s r4328 fun x4329 r4330 =>
                                               un_nil r4330 <|
                                               br (x4329 == x4274)
                                                 (chk (decide (Int.ofNat (List.length x4257) = Int.ofNat (List.length x4257)) && true && true) <|
                                                  out (nego_Mine x4241 x4243 x4245 x4247 x4249 x4251 x4253 x4255 x4257 x4259 x4263 1) fun r4331 =>
                                                  un_s r4331 fun x4332 r4333 =>
                                                  un_nil r4333 <|
                                                  br (x4332 == { data := #[(2 : UInt8)] })
                                                    (chk (decide (Int.ofNat (List.length x4237) = Int.ofNat (List.length x4237)) && true && true) <|
                                                     out (nego_Theirs x4221 x4223 x4225 x4227 x4229 x4231 x4233 x4235 x4237 x4239 x4261 1) fun r4334 =>
                                                     un_s r4334 fun x4335 r4336 =>
                                                     un_nil r4336 <|
                                                     some [.b (x4335 == { data := #[2] })])
                                                    (some [.b (false)]))
                                                 (some [.b (false)]))
                                              (some [.b (false)]))
                                           (some [.b (false)]))
                                        (some [.b (false)]))
                                     (chk (decide (Int.ofNat (List.length x4237) = Int.ofNat (List.length x4237)) && true && true) <|
                                      out (nego_Done x4221 x4223 x4225 x4227 x4229 x4231 x4233 x4235 x4237 x4239 x4261) fun r4337 =>
                                      un_b r4337 fun x4338 r4339 =>
                                      un_nil r4339 <|
                                      br (x4338)
                                        (chk (decide (Int.ofNat (List.length x4257) = Int.ofNat (List.length x4257)) && true && true) <|
                                         out (nego_Done x4241 x4243 x4245 x4247 x4249 x4251 x4253 x4255 x4257 x4259 x4263) fun r4340 =>
                                         un_b r4340 fun x4341 r4342 =>
                                         un_nil r4342 <|
                                         br (x4341)
                                           (chk (decide (Int.ofNat (List.length x4237) = Int.ofNat (List.length x4237)) && true && true) <|
                                            out (nego_Mine x4221 x4223 x4225 x4227 x4229 x4231 x4233 x4235 x4237 x4239 x4261 1) fun r4343 =>
                                            un_s r4343 fun x4344 r4345 =>
                                            un_nil r4345 <|
                                            br (x4344 == x4274)
                                              (chk (decide (Int.ofNat (List.length x4257) = Int.ofNat (List.length x4257)) && true && true) <|
                                               out (nego_Theirs x4241 x4243 x4245 x4247 x4249 x4251 x4253 x4255 x4257 x4259 x4263 1) fun r4346 =>
                                               un_s r4346 fun x4347 r4348 =>
                                               un_nil r4348 <|
                                               br (x4347 == x4274)
                                                 (chk (decide (Int.ofNat (List.length x4257) = Int.ofNat (List.length x4257)) && true && true) <|
                                                  out (nego_Mine x4241 x4243 x4245 x4247 x4249 x4251 x4253 x4255 x4257 x4259 x4263 1) fun r4349 =>
                                                  un_s r4349 fun x4350 r4351 =>
                                                  un_nil r4351 <|
                                                  br (x4350 == x4279)
                                                    (chk (decide (Int.ofNat (List.length x4237) = Int.ofNat (List.length x4237)) && true && true) <|
                                                     out (nego_Theirs x4221 x4223 x4225 x4227 x4229 x4231 x4233 x4235 x4237 x4239 x4261 1) fun r4352 =>
                                                     un_s r4352 fun x4353 r4354 =>
                                                     un_nil r4354 <|
                                                     some [.b (x4353 == x4279)])
                                                    (some [.b (false)]))
                                                 (some [.b (false)]))
                                              (some [.b (false)]))
                                           (some [.b (false)]))
                                        (some [.b (false)]))))
                               (none))
                            (fun r4355 =>
                             un_lb r4355 fun x4356 r4357 =>
                             un_b r4357 fun x4358 r4359 =>
                             un_nil r4359 <|
                             some [.b (x4358)])
                            top (lost) (x4193) (x4195) (x4197) (x4199) (x4201) (x4203) (x4205) (x4207) (x4209) (x4211) (x4168) (x4170) (x4172) (x4174) (x4176) (x4178) (x4180) (x4182) (x4184) (x4186) (x4213) (x4188) (0) (d) (c) (a) (b)))))))))
def NegoTwo (lost : List Bool) (a : ByteArray) (b : ByteArray) (c : ByteArray) (d : ByteArray) : Option (List Leaf) := NegoTwo_d @NegoTwo_10_L lost a b c d
end Go.Sx.T

