import Derived.Test.YtopcljhdejindaaGreatDoorYWinSpec
set_option linter.all false
namespace Go.Sx.T
open Go Go.Sx
def WinFire_13_B  {α : Type} (kx : Nat → List Leaf → Option α) (kr : List Leaf → Option α) (again : Int → Int → Int → Int → Int → Bool → Int → Bool → Bool → Int → Bool → Int → Int → Int → Int → Int → Int → Int → Option α) (w_cwnd : Int) (w_slow : Int) (w_pipe : Int) (w_count : Int) (w_halved_n : Int) (w_halved_is : Bool) (w_last_n : Int) (w_last_is : Bool) (w_runs : Bool) (w_due : Int) (w_rtt_any : Bool) (w_rtt_smooth : Int) (w_rtt_spread : Int) (w_rtt_rto : Int) (i : Int) (wait : Int) (now : Int) (n2 : Int) : Option α :=
  one (remI .i64 n2 12) fun x4395 =>
  one (addI .i64 x4395 12) fun x4396 =>
  one (remI .i64 x4396 12) fun x4397 =>
  one (addI .i64 1 x4397) fun x4398 =>
  br (decide (i < x4398))
    (one (addI .i64 2 i) fun x4399 =>
     one (wrapI .u64 x4399) fun x4400 =>
     out (win_Sent w_cwnd w_slow w_pipe w_count w_halved_n w_halved_is w_last_n w_last_is w_runs w_due w_rtt_any w_rtt_smooth w_rtt_spread w_rtt_rto x4400 now) fun r4401 =>
     un_i r4401 fun x4402 r4403 =>
     un_i r4403 fun x4404 r4405 =>
     un_i r4405 fun x4406 r4407 =>
     un_i r4407 fun x4408 r4409 =>
     un_i r4409 fun x4410 r4411 =>
     un_b r4411 fun x4412 r4413 =>
     un_i r4413 fun x4414 r4415 =>
     un_b r4415 fun x4416 r4417 =>
     un_b r4417 fun x4418 r4419 =>
     un_i r4419 fun x4420 r4421 =>
     un_b r4421 fun x4422 r4423 =>
     un_i r4423 fun x4424 r4425 =>
     un_i r4425 fun x4426 r4427 =>
     un_i r4427 fun x4428 r4429 =>
     un_b r4429 fun x4430 r4431 =>
     un_nil r4431 <|
     br (!x4430)
       (kr [.b (false)])
       (out (win_Due x4402 x4404 x4406 x4408 x4410 x4412 x4414 x4416 x4418 x4420 x4422 x4424 x4426 x4428) fun r4432 =>
        un_i r4432 fun x4433 r4434 =>
        un_b r4434 fun x4435 r4436 =>
        un_nil r4436 <|
        br (!x4435)
          (kr [.b (false)])
          (one (addI .i64 now wait) fun x4437 =>
           br (x4433 != x4437)
             (kr [.b (false)])
             (one (subI .i64 x4433 1) fun x4438 =>
              out (win_Fire x4402 x4404 x4406 x4408 x4410 x4412 x4414 x4416 x4418 x4420 x4422 x4424 x4426 x4428 x4438) fun r4439 =>
              un_i r4439 fun x4440 r4441 =>
              un_i r4441 fun x4442 r4443 =>
              un_i r4443 fun x4444 r4445 =>
              un_i r4445 fun x4446 r4447 =>
              un_i r4447 fun x4448 r4449 =>
              un_b r4449 fun x4450 r4451 =>
              un_i r4451 fun x4452 r4453 =>
              un_b r4453 fun x4454 r4455 =>
              un_b r4455 fun x4456 r4457 =>
              un_i r4457 fun x4458 r4459 =>
              un_b r4459 fun x4460 r4461 =>
              un_i r4461 fun x4462 r4463 =>
              un_i r4463 fun x4464 r4465 =>
              un_i r4465 fun x4466 r4467 =>
              un_b r4467 fun x4468 r4469 =>
              un_nil r4469 <|
              br (x4468)
                (kr [.b (false)])
                (out (win_Fire x4440 x4442 x4444 x4446 x4448 x4450 x4452 x4454 x4456 x4458 x4460 x4462 x4464 x4466 x4433) fun r4470 =>
                 un_i r4470 fun x4471 r4472 =>
                 un_i r4472 fun x4473 r4474 =>
                 un_i r4474 fun x4475 r4476 =>
                 un_i r4476 fun x4477 r4478 =>
                 un_i r4478 fun x4479 r4480 =>
                 un_b r4480 fun x4481 r4482 =>
                 un_i r4482 fun x4483 r4484 =>
                 un_b r4484 fun x4485 r4486 =>
                 un_b r4486 fun x4487 r4488 =>
                 un_i r4488 fun x4489 r4490 =>
                 un_b r4490 fun x4491 r4492 =>
                 un_i r4492 fun x4493 r4494 =>
                 un_i r4494 fun x4495 r4496 =>
                 un_i r4496 fun x4497 r4498 =>
                 un_b r4498 fun x4499 r4500 =>
                 un_nil r4500 <|
                 br (!x4499)
                   (kr [.b (false)])
                   (out (win_Cwnd x4471 x4473 x4475 x4477 x4479 x4481 x4483 x4485 x4487 x4489 x4491 x4493 x4495 x4497) fun r4501 =>
                    un_i r4501 fun x4502 r4503 =>
                    un_nil r4503 <|
                    br (x4502 != 1)
                      (kr [.b (false)])
                      (out (win_Pipe x4471 x4473 x4475 x4477 x4479 x4481 x4483 x4485 x4487 x4489 x4491 x4493 x4495 x4497) fun r4504 =>
                       un_i r4504 fun x4505 r4506 =>
                       un_nil r4506 <|
                       br (x4505 != 0)
                         (kr [.b (false)])
                         (one (mulI .i64 2 wait) fun x4507 =>
                          one (minI x4507 64000000) fun x4508 =>
                          one (addI .i64 i 1) fun x4509 =>
                          again (x4471) (x4473) (x4475) (x4477) (x4479) (x4481) (x4483) (x4485) (x4487) (x4489) (x4491) (x4493) (x4495) (x4497) (x4509) (x4508) (x4433) (n2)))))))))
    (kx 0 [])
def WinFire_13_L {α : Type} (kx : Nat → List Leaf → Option α) (kr : List Leaf → Option α) : Nat → Int → Int → Int → Int → Int → Bool → Int → Bool → Bool → Int → Bool → Int → Int → Int → Int → Int → Int → Int → Option α
  | 0, _, _, _, _, _, _, _, _, _, _, _, _, _, _, _, _, _, _ => none
  | n + 1, w_cwnd, w_slow, w_pipe, w_count, w_halved_n, w_halved_is, w_last_n, w_last_is, w_runs, w_due, w_rtt_any, w_rtt_smooth, w_rtt_spread, w_rtt_rto, i, wait, now, n2 => WinFire_13_B  kx kr (WinFire_13_L kx kr n) w_cwnd w_slow w_pipe w_count w_halved_n w_halved_is w_last_n w_last_is w_runs w_due w_rtt_any w_rtt_smooth w_rtt_spread w_rtt_rto i wait now n2
def WinFire_13_F (L13 : ({β : Type} → (Nat → List Leaf → Option β) → (List Leaf → Option β) → Nat → Int → Int → Int → Int → Int → Bool → Int → Bool → Bool → Int → Bool → Int → Int → Int → Int → Int → Int → Int → Option β)) {α : Type} (n : Nat) (ls : List Leaf) (kx : Nat → List Leaf → Option α) (kr : List Leaf → Option α) : Option α := un_i ls fun w_cwnd rr => un_i rr fun w_slow rr => un_i rr fun w_pipe rr => un_i rr fun w_count rr => un_i rr fun w_halved_n rr => un_b rr fun w_halved_is rr => un_i rr fun w_last_n rr => un_b rr fun w_last_is rr => un_b rr fun w_runs rr => un_i rr fun w_due rr => un_b rr fun w_rtt_any rr => un_i rr fun w_rtt_smooth rr => un_i rr fun w_rtt_spread rr => un_i rr fun w_rtt_rto rr => un_i rr fun i rr => un_i rr fun wait rr => un_i rr fun now rr => un_i rr fun n2 rr => un_nil rr (L13 kx kr n w_cwnd w_slow w_pipe w_count w_halved_n w_halved_is w_last_n w_last_is w_runs w_due w_rtt_any w_rtt_smooth w_rtt_spread w_rtt_rto i wait now n2)
def WinFire_d (L13 : ({β : Type} → (Nat → List Leaf → Option β) → (List Leaf → Option β) → Nat → Int → Int → Int → Int → Int → Bool → Int → Bool → Bool → Int → Bool → Int → Int → Int → Int → Int → Int → Int → Option β)) (n2 : Int) (d : Int) : Option (List Leaf) :=
  out (win_New) fun r4510 =>
  un_i r4510 fun x4511 r4512 =>
  un_i r4512 fun x4513 r4514 =>
  un_i r4514 fun x4515 r4516 =>
  un_i r4516 fun x4517 r4518 =>
  un_i r4518 fun x4519 r4520 =>
  un_b r4520 fun x4521 r4522 =>
  un_i r4522 fun x4523 r4524 =>
  un_b r4524 fun x4525 r4526 =>
  un_b r4526 fun x4527 r4528 =>
  un_i r4528 fun x4529 r4530 =>
  un_b r4530 fun x4531 r4532 =>
  un_i r4532 fun x4533 r4534 =>
  un_i r4534 fun x4535 r4536 =>
  un_i r4536 fun x4537 r4538 =>
  un_nil r4538 <|
  one (minI d 1099511627776) fun x4539 =>
  one (maxI 0 x4539) fun x4540 =>
  out (win_Sent x4511 x4513 x4515 x4517 x4519 x4521 x4523 x4525 x4527 x4529 x4531 x4533 x4535 x4537 1 0) fun r4541 =>
  un_i r4541 fun x4542 r4543 =>
  un_i r4543 fun x4544 r4545 =>
  un_i r4545 fun x4546 r4547 =>
  un_i r4547 fun x4548 r4549 =>
  un_i r4549 fun x4550 r4551 =>
  un_b r4551 fun x4552 r4553 =>
  un_i r4553 fun x4554 r4555 =>
  un_b r4555 fun x4556 r4557 =>
  un_b r4557 fun x4558 r4559 =>
  un_i r4559 fun x4560 r4561 =>
  un_b r4561 fun x4562 r4563 =>
  un_i r4563 fun x4564 r4565 =>
  un_i r4565 fun x4566 r4567 =>
  un_i r4567 fun x4568 r4569 =>
  un_b r4569 fun x4570 r4571 =>
  un_nil r4571 <|
  chk (decide (↑1 = Int.ofNat (List.length [1])) && (decide (0 = Int.ofNat 0) && (decide (0 = Int.ofNat 0) && true)) && true) <|
  out (win_Hear [1] [] [] x4542 x4544 x4546 x4548 x4550 x4552 x4554 x4556 x4558 x4560 x4562 x4564 x4566 x4568 0 x4540 0) fun r4572 =>
  un_i r4572 fun x4573 r4574 =>
  un_i r4574 fun x4575 r4576 =>
  un_i r4576 fun x4577 r4578 =>
  un_i r4578 fun x4579 r4580 =>
  un_i r4580 fun x4581 r4582 =>
  un_b r4582 fun x4583 r4584 =>
  un_i r4584 fun x4585 r4586 =>
  un_b r4586 fun x4587 r4588 =>
  un_b r4588 fun x4589 r4590 =>
  un_i r4590 fun x4591 r4592 =>
  un_b r4592 fun x4593 r4594 =>
  un_i r4594 fun x4595 r4596 =>
  un_i r4596 fun x4597 r4598 =>
  un_i r4598 fun x4599 r4600 =>
  un_nil r4600 <|
  out (rtt_New) fun r4601 =>
  un_b r4601 fun x4602 r4603 =>
  un_i r4603 fun x4604 r4605 =>
  un_i r4605 fun x4606 r4607 =>
  un_i r4607 fun x4608 r4609 =>
  un_nil r4609 <|
  out (rtt_Sample x4602 x4604 x4606 x4608 x4540) fun r4610 =>
  un_b r4610 fun x4611 r4612 =>
  un_i r4612 fun x4613 r4614 =>
  un_i r4614 fun x4615 r4616 =>
  un_i r4616 fun x4617 r4618 =>
  un_nil r4618 <|
  out (rtt_Rto x4611 x4613 x4615 x4617) fun r4619 =>
  un_i r4619 fun x4620 r4621 =>
  un_nil r4621 <|
  L13
    (fun i4622 r4623 =>
     br (Nat.beq 0 i4622)
       (un_nil r4623 <|
        some [.b (true)])
       (none))
    (fun r4624 =>
     un_b r4624 fun x4625 r4626 =>
     un_nil r4626 <|
     some [.b (x4625)])
    top (x4573) (x4575) (x4577) (x4579) (x4581) (x4583) (x4585) (x4587) (x4589) (x4591) (x4593) (x4595) (x4597) (x4599) (0) (x4620) (0) (n2)
def WinFire (n2 : Int) (d : Int) : Option (List Leaf) := WinFire_d @WinFire_13_L n2 d
end Go.Sx.T

