import Derived.Test.YthcddikjnpbnjaaGreatDoorYRttSpec
set_option linter.all false
namespace Go.Sx.T
open Go Go.Sx
def win_New  : Option (List Leaf) :=
  out (rtt_New) fun r455 =>
  un_b r455 fun x456 r457 =>
  un_i r457 fun x458 r459 =>
  un_i r459 fun x460 r461 =>
  un_i r461 fun x462 r463 =>
  un_nil r463 <|
  some [.i (3), .i (1000000), .i (0), .i (0), .i (0), .b (false), .i (0), .b (false), .b (false), .i (0), .b (x456), .i (x458), .i (x460), .i (x462)]
def win_May (w_cwnd : Int) (w_slow : Int) (w_pipe : Int) (w_count : Int) (w_halved_n : Int) (w_halved_is : Bool) (w_last_n : Int) (w_last_is : Bool) (w_runs : Bool) (w_due : Int) (w_rtt_any : Bool) (w_rtt_smooth : Int) (w_rtt_spread : Int) (w_rtt_rto : Int) : Option (List Leaf) :=
  some [.b (decide (w_pipe < w_cwnd))]
def win_runsTo (w_cwnd : Int) (w_slow : Int) (w_pipe : Int) (w_count : Int) (w_halved_n : Int) (w_halved_is : Bool) (w_last_n : Int) (w_last_is : Bool) (w_runs : Bool) (w_due : Int) (w_rtt_any : Bool) (w_rtt_smooth : Int) (w_rtt_spread : Int) (w_rtt_rto : Int) (now : Int) : Option (List Leaf) :=
  one (minI now 4611686018427387904) fun x464 =>
  out (rtt_Rto w_rtt_any w_rtt_smooth w_rtt_spread w_rtt_rto) fun r465 =>
  un_i r465 fun x466 r467 =>
  un_nil r467 <|
  one (addI .i64 x464 x466) fun x468 =>
  some [.i (w_cwnd), .i (w_slow), .i (w_pipe), .i (w_count), .i (w_halved_n), .b (w_halved_is), .i (w_last_n), .b (w_last_is), .b (true), .i (x468), .b (w_rtt_any), .i (w_rtt_smooth), .i (w_rtt_spread), .i (w_rtt_rto)]
def win_Sent (w_cwnd : Int) (w_slow : Int) (w_pipe : Int) (w_count : Int) (w_halved_n : Int) (w_halved_is : Bool) (w_last_n : Int) (w_last_is : Bool) (w_runs : Bool) (w_due : Int) (w_rtt_any : Bool) (w_rtt_smooth : Int) (w_rtt_spread : Int) (w_rtt_rto : Int) (n2 : Int) (now : Int) : Option (List Leaf) :=
  out (win_May w_cwnd w_slow w_pipe w_count w_halved_n w_halved_is w_last_n w_last_is w_runs w_due w_rtt_any w_rtt_smooth w_rtt_spread w_rtt_rto) fun r469 =>
  un_b r469 fun x470 r471 =>
  un_nil r471 <|
  br (!x470)
    (some [.i (w_cwnd), .i (w_slow), .i (w_pipe), .i (w_count), .i (w_halved_n), .b (w_halved_is), .i (w_last_n), .b (w_last_is), .b (w_runs), .i (w_due), .b (w_rtt_any), .i (w_rtt_smooth), .i (w_rtt_spread), .i (w_rtt_rto), .b (false)])
    (one (addI .i64 w_pipe 1) fun x472 =>
     out (seq_Of n2) fun r473 =>
     un_i r473 fun x474 r475 =>
     un_nil r475 <|
     br (!w_runs)
       (out (win_runsTo w_cwnd w_slow x472 w_count w_halved_n w_halved_is x474 true w_runs w_due w_rtt_any w_rtt_smooth w_rtt_spread w_rtt_rto now) fun r476 =>
        un_i r476 fun x477 r478 =>
        un_i r478 fun x479 r480 =>
        un_i r480 fun x481 r482 =>
        un_i r482 fun x483 r484 =>
        un_i r484 fun x485 r486 =>
        un_b r486 fun x487 r488 =>
        un_i r488 fun x489 r490 =>
        un_b r490 fun x491 r492 =>
        un_b r492 fun x493 r494 =>
        un_i r494 fun x495 r496 =>
        un_b r496 fun x497 r498 =>
        un_i r498 fun x499 r500 =>
        un_i r500 fun x501 r502 =>
        un_i r502 fun x503 r504 =>
        un_nil r504 <|
        some [.i (x477), .i (x479), .i (x481), .i (x483), .i (x485), .b (x487), .i (x489), .b (x491), .b (x493), .i (x495), .b (x497), .i (x499), .i (x501), .i (x503), .b (true)])
       (some [.i (w_cwnd), .i (w_slow), .i (x472), .i (w_count), .i (w_halved_n), .b (w_halved_is), .i (x474), .b (true), .b (w_runs), .i (w_due), .b (w_rtt_any), .i (w_rtt_smooth), .i (w_rtt_spread), .i (w_rtt_rto), .b (true)]))
def win_grow_5_B  {α : Type} (kx : Nat → List Leaf → Option α) (kr : List Leaf → Option α) (again : Int → Int → Int → Int → Int → Bool → Int → Bool → Bool → Int → Bool → Int → Int → Int → Option α) (w_cwnd : Int) (w_slow : Int) (w_pipe : Int) (w_count : Int) (w_halved_n : Int) (w_halved_is : Bool) (w_last_n : Int) (w_last_is : Bool) (w_runs : Bool) (w_due : Int) (w_rtt_any : Bool) (w_rtt_smooth : Int) (w_rtt_spread : Int) (w_rtt_rto : Int) : Option α :=
  br (decide (w_count ≥ w_cwnd))
    (one (subI .i64 w_count w_cwnd) fun x513 =>
     one (addI .i64 w_cwnd 1) fun x514 =>
     again (x514) (w_slow) (w_pipe) (x513) (w_halved_n) (w_halved_is) (w_last_n) (w_last_is) (w_runs) (w_due) (w_rtt_any) (w_rtt_smooth) (w_rtt_spread) (w_rtt_rto))
    (kx 0 [.i (w_cwnd), .i (w_slow), .i (w_pipe), .i (w_count), .i (w_halved_n), .b (w_halved_is), .i (w_last_n), .b (w_last_is), .b (w_runs), .i (w_due), .b (w_rtt_any), .i (w_rtt_smooth), .i (w_rtt_spread), .i (w_rtt_rto)])
def win_grow_5_L {α : Type} (kx : Nat → List Leaf → Option α) (kr : List Leaf → Option α) : Nat → Int → Int → Int → Int → Int → Bool → Int → Bool → Bool → Int → Bool → Int → Int → Int → Option α
  | 0, _, _, _, _, _, _, _, _, _, _, _, _, _, _ => none
  | n + 1, w_cwnd, w_slow, w_pipe, w_count, w_halved_n, w_halved_is, w_last_n, w_last_is, w_runs, w_due, w_rtt_any, w_rtt_smooth, w_rtt_spread, w_rtt_rto => win_grow_5_B  kx kr (win_grow_5_L kx kr n) w_cwnd w_slow w_pipe w_count w_halved_n w_halved_is w_last_n w_last_is w_runs w_due w_rtt_any w_rtt_smooth w_rtt_spread w_rtt_rto
def win_grow_5_F (L5 : ({β : Type} → (Nat → List Leaf → Option β) → (List Leaf → Option β) → Nat → Int → Int → Int → Int → Int → Bool → Int → Bool → Bool → Int → Bool → Int → Int → Int → Option β)) {α : Type} (n : Nat) (ls : List Leaf) (kx : Nat → List Leaf → Option α) (kr : List Leaf → Option α) : Option α := un_i ls fun w_cwnd rr => un_i rr fun w_slow rr => un_i rr fun w_pipe rr => un_i rr fun w_count rr => un_i rr fun w_halved_n rr => un_b rr fun w_halved_is rr => un_i rr fun w_last_n rr => un_b rr fun w_last_is rr => un_b rr fun w_runs rr => un_i rr fun w_due rr => un_b rr fun w_rtt_any rr => un_i rr fun w_rtt_smooth rr => un_i rr fun w_rtt_spread rr => un_i rr fun w_rtt_rto rr => un_nil rr (L5 kx kr n w_cwnd w_slow w_pipe w_count w_halved_n w_halved_is w_last_n w_last_is w_runs w_due w_rtt_any w_rtt_smooth w_rtt_spread w_rtt_rto)
def win_grow_d (L5 : ({β : Type} → (Nat → List Leaf → Option β) → (List Leaf → Option β) → Nat → Int → Int → Int → Int → Int → Bool → Int → Bool → Bool → Int → Bool → Int → Int → Int → Option β)) (w_cwnd : Int) (w_slow : Int) (w_pipe : Int) (w_count : Int) (w_halved_n : Int) (w_halved_is : Bool) (w_last_n : Int) (w_last_is : Bool) (w_runs : Bool) (w_due : Int) (w_rtt_any : Bool) (w_rtt_smooth : Int) (w_rtt_spread : Int) (w_rtt_rto : Int) (n2 : Int) : Option (List Leaf) :=
  br (decide (w_cwnd < w_slow))
    (one (subI .i64 w_slow w_cwnd) fun x515 =>
     one (minI n2 x515) fun x516 =>
     one (addI .i64 w_cwnd x516) fun x517 =>
     one (subI .i64 n2 x516) fun x518 =>
     one (addI .i64 w_count x518) fun x519 =>
     L5
       (fun i520 r521 =>
        br (Nat.beq 0 i520)
          (un_i r521 fun x522 r523 =>
           un_i r523 fun x524 r525 =>
           un_i r525 fun x526 r527 =>
           un_i r527 fun x528 r529 =>
           un_i r529 fun x530 r531 =>
           un_b r531 fun x532 r533 =>
           un_i r533 fun x534 r535 =>
           un_b r535 fun x536 r537 =>
           un_b r537 fun x538 r539 =>
           un_i r539 fun x540 r541 =>
           un_b r541 fun x542 r543 =>
           un_i r543 fun x544 r545 =>
           un_i r545 fun x546 r547 =>
           un_i r547 fun x548 r549 =>
           un_nil r549 <|
           some [.i (x522), .i (x524), .i (x526), .i (x528), .i (x530), .b (x532), .i (x534), .b (x536), .b (x538), .i (x540), .b (x542), .i (x544), .i (x546), .i (x548)])
          (none))
       (fun r550 =>
        un_nil r550 <|
        none)
       top (x517) (w_slow) (w_pipe) (x519) (w_halved_n) (w_halved_is) (w_last_n) (w_last_is) (w_runs) (w_due) (w_rtt_any) (w_rtt_smooth) (w_rtt_spread) (w_rtt_rto))
    (one (addI .i64 w_count n2) fun x551 =>
     L5
       (fun i552 r553 =>
        br (Nat.beq 0 i552)
          (un_i r553 fun x554 r555 =>
           un_i r555 fun x556 r557 =>
           un_i r557 fun x558 r559 =>
           un_i r559 fun x560 r561 =>
           un_i r561 fun x562 r563 =>
           un_b r563 fun x564 r565 =>
           un_i r565 fun x566 r567 =>
           un_b r567 fun x568 r569 =>
           un_b r569 fun x570 r571 =>
           un_i r571 fun x572 r573 =>
           un_b r573 fun x574 r575 =>
           un_i r575 fun x576 r577 =>
           un_i r577 fun x578 r579 =>
           un_i r579 fun x580 r581 =>
           un_nil r581 <|
           some [.i (x554), .i (x556), .i (x558), .i (x560), .i (x562), .b (x564), .i (x566), .b (x568), .b (x570), .i (x572), .b (x574), .i (x576), .i (x578), .i (x580)])
          (none))
       (fun r582 =>
        un_nil r582 <|
        none)
       top (w_cwnd) (w_slow) (w_pipe) (x551) (w_halved_n) (w_halved_is) (w_last_n) (w_last_is) (w_runs) (w_due) (w_rtt_any) (w_rtt_smooth) (w_rtt_spread) (w_rtt_rto))
def win_grow (w_cwnd : Int) (w_slow : Int) (w_pipe : Int) (w_count : Int) (w_halved_n : Int) (w_halved_is : Bool) (w_last_n : Int) (w_last_is : Bool) (w_runs : Bool) (w_due : Int) (w_rtt_any : Bool) (w_rtt_smooth : Int) (w_rtt_spread : Int) (w_rtt_rto : Int) (n2 : Int) : Option (List Leaf) := win_grow_d @win_grow_5_L w_cwnd w_slow w_pipe w_count w_halved_n w_halved_is w_last_n w_last_is w_runs w_due w_rtt_any w_rtt_smooth w_rtt_spread w_rtt_rto n2
def win_halve (w_cwnd : Int) (w_slow : Int) (w_pipe : Int) (w_count : Int) (w_halved_n : Int) (w_halved_is : Bool) (w_last_n : Int) (w_last_is : Bool) (w_runs : Bool) (w_due : Int) (w_rtt_any : Bool) (w_rtt_smooth : Int) (w_rtt_spread : Int) (w_rtt_rto : Int) : Option (List Leaf) :=
  one (quoI .i64 w_cwnd 2) fun x583 =>
  one (maxI x583 1) fun x584 =>
  br (w_last_is)
    (some [.i (x584), .i (x584), .i (w_pipe), .i (0), .i (w_last_n), .b (w_last_is), .i (w_last_n), .b (w_last_is), .b (w_runs), .i (w_due), .b (w_rtt_any), .i (w_rtt_smooth), .i (w_rtt_spread), .i (w_rtt_rto)])
    (some [.i (x584), .i (x584), .i (w_pipe), .i (0), .i (w_halved_n), .b (w_halved_is), .i (w_last_n), .b (w_last_is), .b (w_runs), .i (w_due), .b (w_rtt_any), .i (w_rtt_smooth), .i (w_rtt_spread), .i (w_rtt_rto)])
def win_where (h_Got : List Int) (h_Late : List Int) (h_Lost : List Int) (h_Marks : Int) (h_Rtt : Int) : Option (List Leaf) :=
  one (Int.ofNat (List.length h_Lost)) fun x587 =>
  br (decide (x587 > 0))
    (one (subI .i64 x587 1) fun x588 =>
     chk (decide ((0 : Int) ≤ x588 ∧ x588 < Int.ofNat (List.length h_Lost))) <|
     chk (decide ((0 : Int) ≤ x588 ∧ x588 < Int.ofNat (List.length h_Lost))) <|
     some [.i (List.getD h_Lost (Int.toNat x588) 0), .b (true)])
    (one (Int.ofNat (List.length h_Got)) fun x589 =>
     br (decide (x589 > 0))
       (one (subI .i64 x589 1) fun x590 =>
        chk (decide ((0 : Int) ≤ x590 ∧ x590 < Int.ofNat (List.length h_Got))) <|
        chk (decide ((0 : Int) ≤ x590 ∧ x590 < Int.ofNat (List.length h_Got))) <|
        one (Int.ofNat (List.length h_Late)) fun x591 =>
        br (decide (x591 > 0))
          (one (subI .i64 x591 1) fun x592 =>
           chk (decide ((0 : Int) ≤ x592 ∧ x592 < Int.ofNat (List.length h_Late))) <|
           chk (decide ((0 : Int) ≤ x592 ∧ x592 < Int.ofNat (List.length h_Late))) <|
           out (seq_Less (List.getD h_Got (Int.toNat x590) 0) (List.getD h_Late (Int.toNat x592) 0)) fun r593 =>
           un_b r593 fun x594 r595 =>
           un_nil r595 <|
           br (x594)
             (one (subI .i64 x591 1) fun x596 =>
              chk (decide ((0 : Int) ≤ x596 ∧ x596 < Int.ofNat (List.length h_Late))) <|
              chk (decide ((0 : Int) ≤ x596 ∧ x596 < Int.ofNat (List.length h_Late))) <|
              some [.i (List.getD h_Late (Int.toNat x596) 0), .b (true)])
             (some [.i (List.getD h_Got (Int.toNat x590) 0), .b (true)]))
          (some [.i (List.getD h_Got (Int.toNat x590) 0), .b (true)]))
       (one (Int.ofNat (List.length h_Late)) fun x597 =>
        br (decide (x597 > 0))
          (one (subI .i64 x597 1) fun x598 =>
           chk (decide ((0 : Int) ≤ x598 ∧ x598 < Int.ofNat (List.length h_Late))) <|
           chk (decide ((0 : Int) ≤ x598 ∧ x598 < Int.ofNat (List.length h_Late))) <|
           some [.i (List.getD h_Late (Int.toNat x598) 0), .b (true)])
          (some [.i (0), .b (false)])))
def win_Hear (h_Got : List Int) (h_Late : List Int) (h_Lost : List Int) (w_cwnd : Int) (w_slow : Int) (w_pipe : Int) (w_count : Int) (w_halved_n : Int) (w_halved_is : Bool) (w_last_n : Int) (w_last_is : Bool) (w_runs : Bool) (w_due : Int) (w_rtt_any : Bool) (w_rtt_smooth : Int) (w_rtt_spread : Int) (w_rtt_rto : Int) (h_Marks : Int) (h_Rtt : Int) (now : Int) : Option (List Leaf) :=
  one (Int.ofNat (List.length h_Got)) fun x599 =>
  one (subI .i64 w_pipe x599) fun x600 =>
  one (Int.ofNat (List.length h_Lost)) fun x601 =>
  one (subI .i64 x600 x601) fun x602 =>
  one (maxI x602 0) fun x603 =>
  br (decide (h_Rtt ≥ 0))
    (out (rtt_Sample w_rtt_any w_rtt_smooth w_rtt_spread w_rtt_rto h_Rtt) fun r604 =>
     un_b r604 fun x605 r606 =>
     un_i r606 fun x607 r608 =>
     un_i r608 fun x609 r610 =>
     un_i r610 fun x611 r612 =>
     un_nil r612 <|
     one (Int.ofNat (List.length h_Got)) fun x613 =>
     br (decide (x613 > 0))
       (one (Int.ofNat (List.length h_Got)) fun x614 =>
        out (win_grow w_cwnd w_slow x603 w_count w_halved_n w_halved_is w_last_n w_last_is w_runs w_due x605 x607 x609 x611 x614) fun r615 =>
        un_i r615 fun x616 r617 =>
        un_i r617 fun x618 r619 =>
        un_i r619 fun x620 r621 =>
        un_i r621 fun x622 r623 =>
        un_i r623 fun x624 r625 =>
        un_b r625 fun x626 r627 =>
        un_i r627 fun x628 r629 =>
        un_b r629 fun x630 r631 =>
        un_b r631 fun x632 r633 =>
        un_i r633 fun x634 r635 =>
        un_b r635 fun x636 r637 =>
        un_i r637 fun x638 r639 =>
        un_i r639 fun x640 r641 =>
        un_i r641 fun x642 r643 =>
        un_nil r643 <|
        one (Int.ofNat (List.length h_Lost)) fun x644 =>
        br (decide (x644 > 0))
          (chk (decide (Int.ofNat (List.length h_Got) = Int.ofNat (List.length h_Got)) && (decide (Int.ofNat (List.length h_Late) = Int.ofNat (List.length h_Late)) && (decide (Int.ofNat (List.length h_Lost) = Int.ofNat (List.length h_Lost)) && true)) && true) <|
           out (win_where h_Got h_Late h_Lost h_Marks h_Rtt) fun r645 =>
           un_i r645 fun x646 r647 =>
           un_b r647 fun x648 r649 =>
           un_nil r649 <|
           br (!x626)
             (out (win_halve x616 x618 x620 x622 x624 x626 x628 x630 x632 x634 x636 x638 x640 x642) fun r650 =>
              un_i r650 fun x651 r652 =>
              un_i r652 fun x653 r654 =>
              un_i r654 fun x655 r656 =>
              un_i r656 fun x657 r658 =>
              un_i r658 fun x659 r660 =>
              un_b r660 fun x661 r662 =>
              un_i r662 fun x663 r664 =>
              un_b r664 fun x665 r666 =>
              un_b r666 fun x667 r668 =>
              un_i r668 fun x669 r670 =>
              un_b r670 fun x671 r672 =>
              un_i r672 fun x673 r674 =>
              un_i r674 fun x675 r676 =>
              un_i r676 fun x677 r678 =>
              un_nil r678 <|
              br (decide (x655 > 0))
                (out (win_runsTo x651 x653 x655 x657 x659 x661 x663 x665 false x669 x671 x673 x675 x677 now) fun r679 =>
                 un_i r679 fun x680 r681 =>
                 un_i r681 fun x682 r683 =>
                 un_i r683 fun x684 r685 =>
                 un_i r685 fun x686 r687 =>
                 un_i r687 fun x688 r689 =>
                 un_b r689 fun x690 r691 =>
                 un_i r691 fun x692 r693 =>
                 un_b r693 fun x694 r695 =>
                 un_b r695 fun x696 r697 =>
                 un_i r697 fun x698 r699 =>
                 un_b r699 fun x700 r701 =>
                 un_i r701 fun x702 r703 =>
                 un_i r703 fun x704 r705 =>
                 un_i r705 fun x706 r707 =>
                 un_nil r707 <|
                 some [.i (x680), .i (x682), .i (x684), .i (x686), .i (x688), .b (x690), .i (x692), .b (x694), .b (x696), .i (x698), .b (x700), .i (x702), .i (x704), .i (x706)])
                (some [.i (x651), .i (x653), .i (x655), .i (x657), .i (x659), .b (x661), .i (x663), .b (x665), .b (false), .i (x669), .b (x671), .i (x673), .i (x675), .i (x677)]))
             (br (x648)
                (out (seq_Less x624 x646) fun r708 =>
                 un_b r708 fun x709 r710 =>
                 un_nil r710 <|
                 br (x709)
                   (out (win_halve x616 x618 x620 x622 x624 x626 x628 x630 x632 x634 x636 x638 x640 x642) fun r711 =>
                    un_i r711 fun x712 r713 =>
                    un_i r713 fun x714 r715 =>
                    un_i r715 fun x716 r717 =>
                    un_i r717 fun x718 r719 =>
                    un_i r719 fun x720 r721 =>
                    un_b r721 fun x722 r723 =>
                    un_i r723 fun x724 r725 =>
                    un_b r725 fun x726 r727 =>
                    un_b r727 fun x728 r729 =>
                    un_i r729 fun x730 r731 =>
                    un_b r731 fun x732 r733 =>
                    un_i r733 fun x734 r735 =>
                    un_i r735 fun x736 r737 =>
                    un_i r737 fun x738 r739 =>
                    un_nil r739 <|
                    br (decide (x716 > 0))
                      (out (win_runsTo x712 x714 x716 x718 x720 x722 x724 x726 false x730 x732 x734 x736 x738 now) fun r740 =>
                       un_i r740 fun x741 r742 =>
                       un_i r742 fun x743 r744 =>
                       un_i r744 fun x745 r746 =>
                       un_i r746 fun x747 r748 =>
                       un_i r748 fun x749 r750 =>
                       un_b r750 fun x751 r752 =>
                       un_i r752 fun x753 r754 =>
                       un_b r754 fun x755 r756 =>
                       un_b r756 fun x757 r758 =>
                       un_i r758 fun x759 r760 =>
                       un_b r760 fun x761 r762 =>
                       un_i r762 fun x763 r764 =>
                       un_i r764 fun x765 r766 =>
                       un_i r766 fun x767 r768 =>
                       un_nil r768 <|
                       some [.i (x741), .i (x743), .i (x745), .i (x747), .i (x749), .b (x751), .i (x753), .b (x755), .b (x757), .i (x759), .b (x761), .i (x763), .i (x765), .i (x767)])
                      (some [.i (x712), .i (x714), .i (x716), .i (x718), .i (x720), .b (x722), .i (x724), .b (x726), .b (false), .i (x730), .b (x732), .i (x734), .i (x736), .i (x738)]))
                   (br (decide (x620 > 0))
                      (out (win_runsTo x616 x618 x620 x622 x624 x626 x628 x630 false x634 x636 x638 x640 x642 now) fun r769 =>
                       un_i r769 fun x770 r771 =>
                       un_i r771 fun x772 r773 =>
                       un_i r773 fun x774 r775 =>
                       un_i r775 fun x776 r777 =>
                       un_i r777 fun x778 r779 =>
                       un_b r779 fun x780 r781 =>
                       un_i r781 fun x782 r783 =>
                       un_b r783 fun x784 r785 =>
                       un_b r785 fun x786 r787 =>
                       un_i r787 fun x788 r789 =>
                       un_b r789 fun x790 r791 =>
                       un_i r791 fun x792 r793 =>
                       un_i r793 fun x794 r795 =>
                       un_i r795 fun x796 r797 =>
                       un_nil r797 <|
                       some [.i (x770), .i (x772), .i (x774), .i (x776), .i (x778), .b (x780), .i (x782), .b (x784), .b (x786), .i (x788), .b (x790), .i (x792), .i (x794), .i (x796)])
                      (some [.i (x616), .i (x618), .i (x620), .i (x622), .i (x624), .b (x626), .i (x628), .b (x630), .b (false), .i (x634), .b (x636), .i (x638), .i (x640), .i (x642)])))
                (br (decide (x620 > 0))
                   (out (win_runsTo x616 x618 x620 x622 x624 x626 x628 x630 false x634 x636 x638 x640 x642 now) fun r798 =>
                    un_i r798 fun x799 r800 =>
                    un_i r800 fun x801 r802 =>
                    un_i r802 fun x803 r804 =>
                    un_i r804 fun x805 r806 =>
                    un_i r806 fun x807 r808 =>
                    un_b r808 fun x809 r810 =>
                    un_i r810 fun x811 r812 =>
                    un_b r812 fun x813 r814 =>
                    un_b r814 fun x815 r816 =>
                    un_i r816 fun x817 r818 =>
                    un_b r818 fun x819 r820 =>
                    un_i r820 fun x821 r822 =>
                    un_i r822 fun x823 r824 =>
                    un_i r824 fun x825 r826 =>
                    un_nil r826 <|
                    some [.i (x799), .i (x801), .i (x803), .i (x805), .i (x807), .b (x809), .i (x811), .b (x813), .b (x815), .i (x817), .b (x819), .i (x821), .i (x823), .i (x825)])
                   (some [.i (x616), .i (x618), .i (x620), .i (x622), .i (x624), .b (x626), .i (x628), .b (x630), .b (false), .i (x634), .b (x636), .i (x638), .i (x640), .i (x642)]))))
          (br (decide (h_Marks > 0))
             (chk (decide (Int.ofNat (List.length h_Got) = Int.ofNat (List.length h_Got)) && (decide (Int.ofNat (List.length h_Late) = Int.ofNat (List.length h_Late)) && (decide (Int.ofNat (List.length h_Lost) = Int.ofNat (List.length h_Lost)) && true)) && true) <|
              out (win_where h_Got h_Late h_Lost h_Marks h_Rtt) fun r827 =>
              un_i r827 fun x828 r829 =>
              un_b r829 fun x830 r831 =>
              un_nil r831 <|
              br (!x626)
                (out (win_halve x616 x618 x620 x622 x624 x626 x628 x630 x632 x634 x636 x638 x640 x642) fun r832 =>
                 un_i r832 fun x833 r834 =>
                 un_i r834 fun x835 r836 =>
                 un_i r836 fun x837 r838 =>
                 un_i r838 fun x839 r840 =>
                 un_i r840 fun x841 r842 =>
                 un_b r842 fun x843 r844 =>
                 un_i r844 fun x845 r846 =>
                 un_b r846 fun x847 r848 =>
                 un_b r848 fun x849 r850 =>
                 un_i r850 fun x851 r852 =>
                 un_b r852 fun x853 r854 =>
                 un_i r854 fun x855 r856 =>
                 un_i r856 fun x857 r858 =>
                 un_i r858 fun x859 r860 =>
                 un_nil r860 <|
                 br (decide (x837 > 0))
                   (out (win_runsTo x833 x835 x837 x839 x841 x843 x845 x847 false x851 x853 x855 x857 x859 now) fun r861 =>
                    un_i r861 fun x862 r863 =>
                    un_i r863 fun x864 r865 =>
                    un_i r865 fun x866 r867 =>
                    un_i r867 fun x868 r869 =>
                    un_i r869 fun x870 r871 =>
                    un_b r871 fun x872 r873 =>
                    un_i r873 fun x874 r875 =>
                    un_b r875 fun x876 r877 =>
                    un_b r877 fun x878 r879 =>
                    un_i r879 fun x880 r881 =>
                    un_b r881 fun x882 r883 =>
                    un_i r883 fun x884 r885 =>
                    un_i r885 fun x886 r887 =>
                    un_i r887 fun x888 r889 =>
                    un_nil r889 <|
                    some [.i (x862), .i (x864), .i (x866), .i (x868), .i (x870), .b (x872), .i (x874), .b (x876), .b (x878), .i (x880), .b (x882), .i (x884), .i (x886), .i (x888)])
                   (some [.i (x833), .i (x835), .i (x837), .i (x839), .i (x841), .b (x843), .i (x845), .b (x847), .b (false), .i (x851), .b (x853), .i (x855), .i (x857), .i (x859)]))
                (br (x830)
                   (out (seq_Less x624 x828) fun r890 =>
                    un_b r890 fun x891 r892 =>
                    un_nil r892 <|
                    br (x891)
                      (out (win_halve x616 x618 x620 x622 x624 x626 x628 x630 x632 x634 x636 x638 x640 x642) fun r893 =>
                       un_i r893 fun x894 r895 =>
                       un_i r895 fun x896 r897 =>
                       un_i r897 fun x898 r899 =>
                       un_i r899 fun x900 r901 =>
                       un_i r901 fun x902 r903 =>
                       un_b r903 fun x904 r905 =>
                       un_i r905 fun x906 r907 =>
                       un_b r907 fun x908 r909 =>
                       un_b r909 fun x910 r911 =>
                       un_i r911 fun x912 r913 =>
                       un_b r913 fun x914 r915 =>
                       un_i r915 fun x916 r917 =>
                       un_i r917 fun x918 r919 =>
                       un_i r919 fun x920 r921 =>
                       un_nil r921 <|
                       br (decide (x898 > 0))
                         (out (win_runsTo x894 x896 x898 x900 x902 x904 x906 x908 false x912 x914 x916 x918 x920 now) fun r922 =>
                          un_i r922 fun x923 r924 =>
                          un_i r924 fun x925 r926 =>
                          un_i r926 fun x927 r928 =>
                          un_i r928 fun x929 r930 =>
                          un_i r930 fun x931 r932 =>
                          un_b r932 fun x933 r934 =>
                          un_i r934 fun x935 r936 =>
                          un_b r936 fun x937 r938 =>
                          un_b r938 fun x939 r940 =>
                          un_i r940 fun x941 r942 =>
                          un_b r942 fun x943 r944 =>
                          un_i r944 fun x945 r946 =>
                          un_i r946 fun x947 r948 =>
                          un_i r948 fun x949 r950 =>
                          un_nil r950 <|
                          some [.i (x923), .i (x925), .i (x927), .i (x929), .i (x931), .b (x933), .i (x935), .b (x937), .b (x939), .i (x941), .b (x943), .i (x945), .i (x947), .i (x949)])
                         (some [.i (x894), .i (x896), .i (x898), .i (x900), .i (x902), .b (x904), .i (x906), .b (x908), .b (false), .i (x912), .b (x914), .i (x916), .i (x918), .i (x920)]))
                      (br (decide (x620 > 0))
                         (out (win_runsTo x616 x618 x620 x622 x624 x626 x628 x630 false x634 x636 x638 x640 x642 now) fun r951 =>
                          un_i r951 fun x952 r953 =>
                          un_i r953 fun x954 r955 =>
                          un_i r955 fun x956 r957 =>
                          un_i r957 fun x958 r959 =>
                          un_i r959 fun x960 r961 =>
                          un_b r961 fun x962 r963 =>
                          un_i r963 fun x964 r965 =>
                          un_b r965 fun x966 r967 =>
                          un_b r967 fun x968 r969 =>
                          un_i r969 fun x970 r971 =>
                          un_b r971 fun x972 r973 =>
                          un_i r973 fun x974 r975 =>
                          un_i r975 fun x976 r977 =>
                          un_i r977 fun x978 r979 =>
                          un_nil r979 <|
                          some [.i (x952), .i (x954), .i (x956), .i (x958), .i (x960), .b (x962), .i (x964), .b (x966), .b (x968), .i (x970), .b (x972), .i (x974), .i (x976), .i (x978)])
                         (some [.i (x616), .i (x618), .i (x620), .i (x622), .i (x624), .b (x626), .i (x628), .b (x630), .b (false), .i (x634), .b (x636), .i (x638), .i (x640), .i (x642)])))
                   (br (decide (x620 > 0))
                      (out (win_runsTo x616 x618 x620 x622 x624 x626 x628 x630 false x634 x636 x638 x640 x642 now) fun r980 =>
                       un_i r980 fun x981 r982 =>
                       un_i r982 fun x983 r984 =>
                       un_i r984 fun x985 r986 =>
                       un_i r986 fun x987 r988 =>
                       un_i r988 fun x989 r990 =>
                       un_b r990 fun x991 r992 =>
                       un_i r992 fun x993 r994 =>
                       un_b r994 fun x995 r996 =>
                       un_b r996 fun x997 r998 =>
                       un_i r998 fun x999 r1000 =>
                       un_b r1000 fun x1001 r1002 =>
                       un_i r1002 fun x1003 r1004 =>
                       un_i r1004 fun x1005 r1006 =>
                       un_i r1006 fun x1007 r1008 =>
                       un_nil r1008 <|
                       some [.i (x981), .i (x983), .i (x985), .i (x987), .i (x989), .b (x991), .i (x993), .b (x995), .b (x997), .i (x999), .b (x1001), .i (x1003), .i (x1005), .i (x1007)])
                      (some [.i (x616), .i (x618), .i (x620), .i (x622), .i (x624), .b (x626), .i (x628), .b (x630), .b (false), .i (x634), .b (x636), .i (x638), .i (x640), .i (x642)]))))
             (br (decide (x620 > 0))
                (out (win_runsTo x616 x618 x620 x622 x624 x626 x628 x630 false x634 x636 x638 x640 x642 now) fun r1009 =>
                 un_i r1009 fun x1010 r1011 =>
                 un_i r1011 fun x1012 r1013 =>
                 un_i r1013 fun x1014 r1015 =>
                 un_i r1015 fun x1016 r1017 =>
                 un_i r1017 fun x1018 r1019 =>
                 un_b r1019 fun x1020 r1021 =>
                 un_i r1021 fun x1022 r1023 =>
                 un_b r1023 fun x1024 r1025 =>
                 un_b r1025 fun x1026 r1027 =>
                 un_i r1027 fun x1028 r1029 =>
                 un_b r1029 fun x1030 r1031 =>
                 un_i r1031 fun x1032 r1033 =>
                 un_i r1033 fun x1034 r1035 =>
                 un_i r1035 fun x1036 r1037 =>
                 un_nil r1037 <|
                 some [.i (x1010), .i (x1012), .i (x1014), .i (x1016), .i (x1018), .b (x1020), .i (x1022), .b (x1024), .b (x1026), .i (x1028), .b (x1030), .i (x1032), .i (x1034), .i (x1036)])
                (some [.i (x616), .i (x618), .i (x620), .i (x622), .i (x624), .b (x626), .i (x628), .b (x630), .b (false), .i (x634), .b (x636), .i (x638), .i (x640), .i (x642)]))))
       (one (Int.ofNat (List.length h_Lost)) fun x1038 =>
        br (decide (x1038 > 0))
          (chk (decide (Int.ofNat (List.length h_Got) = Int.ofNat (List.length h_Got)) && (decide (Int.ofNat (List.length h_Late) = Int.ofNat (List.length h_Late)) && (decide (Int.ofNat (List.length h_Lost) = Int.ofNat (List.length h_Lost)) && true)) && true) <|
           out (win_where h_Got h_Late h_Lost h_Marks h_Rtt) fun r1039 =>
           un_i r1039 fun x1040 r1041 =>
           un_b r1041 fun x1042 r1043 =>
           un_nil r1043 <|
           br (!w_halved_is)
             (out (win_halve w_cwnd w_slow x603 w_count w_halved_n w_halved_is w_last_n w_last_is w_runs w_due x605 x607 x609 x611) fun r1044 =>
              un_i r1044 fun x1045 r1046 =>
              un_i r1046 fun x1047 r1048 =>
              un_i r1048 fun x1049 r1050 =>
              un_i r1050 fun x1051 r1052 =>
              un_i r1052 fun x1053 r1054 =>
              un_b r1054 fun x1055 r1056 =>
              un_i r1056 fun x1057 r1058 =>
              un_b r1058 fun x1059 r1060 =>
              un_b r1060 fun x1061 r1062 =>
              un_i r1062 fun x1063 r1064 =>
              un_b r1064 fun x1065 r1066 =>
              un_i r1066 fun x1067 r1068 =>
              un_i r1068 fun x1069 r1070 =>
              un_i r1070 fun x1071 r1072 =>
              un_nil r1072 <|
              br (decide (x1049 > 0))
                (out (win_runsTo x1045 x1047 x1049 x1051 x1053 x1055 x1057 x1059 false x1063 x1065 x1067 x1069 x1071 now) fun r1073 =>
                 un_i r1073 fun x1074 r1075 =>
                 un_i r1075 fun x1076 r1077 =>
                 un_i r1077 fun x1078 r1079 =>
                 un_i r1079 fun x1080 r1081 =>
                 un_i r1081 fun x1082 r1083 =>
                 un_b r1083 fun x1084 r1085 =>
                 un_i r1085 fun x1086 r1087 =>
                 un_b r1087 fun x1088 r1089 =>
                 un_b r1089 fun x1090 r1091 =>
                 un_i r1091 fun x1092 r1093 =>
                 un_b r1093 fun x1094 r1095 =>
                 un_i r1095 fun x1096 r1097 =>
                 un_i r1097 fun x1098 r1099 =>
                 un_i r1099 fun x1100 r1101 =>
                 un_nil r1101 <|
                 some [.i (x1074), .i (x1076), .i (x1078), .i (x1080), .i (x1082), .b (x1084), .i (x1086), .b (x1088), .b (x1090), .i (x1092), .b (x1094), .i (x1096), .i (x1098), .i (x1100)])
                (some [.i (x1045), .i (x1047), .i (x1049), .i (x1051), .i (x1053), .b (x1055), .i (x1057), .b (x1059), .b (false), .i (x1063), .b (x1065), .i (x1067), .i (x1069), .i (x1071)]))
             (br (x1042)
                (out (seq_Less w_halved_n x1040) fun r1102 =>
                 un_b r1102 fun x1103 r1104 =>
                 un_nil r1104 <|
                 br (x1103)
                   (out (win_halve w_cwnd w_slow x603 w_count w_halved_n w_halved_is w_last_n w_last_is w_runs w_due x605 x607 x609 x611) fun r1105 =>
                    un_i r1105 fun x1106 r1107 =>
                    un_i r1107 fun x1108 r1109 =>
                    un_i r1109 fun x1110 r1111 =>
                    un_i r1111 fun x1112 r1113 =>
                    un_i r1113 fun x1114 r1115 =>
                    un_b r1115 fun x1116 r1117 =>
                    un_i r1117 fun x1118 r1119 =>
                    un_b r1119 fun x1120 r1121 =>
                    un_b r1121 fun x1122 r1123 =>
                    un_i r1123 fun x1124 r1125 =>
                    un_b r1125 fun x1126 r1127 =>
                    un_i r1127 fun x1128 r1129 =>
                    un_i r1129 fun x1130 r1131 =>
                    un_i r1131 fun x1132 r1133 =>
                    un_nil r1133 <|
                    br (decide (x1110 > 0))
                      (out (win_runsTo x1106 x1108 x1110 x1112 x1114 x1116 x1118 x1120 false x1124 x1126 x1128 x1130 x1132 now) fun r1134 =>
                       un_i r1134 fun x1135 r1136 =>
                       un_i r1136 fun x1137 r1138 =>
                       un_i r1138 fun x1139 r1140 =>
                       un_i r1140 fun x1141 r1142 =>
                       un_i r1142 fun x1143 r1144 =>
                       un_b r1144 fun x1145 r1146 =>
                       un_i r1146 fun x1147 r1148 =>
                       un_b r1148 fun x1149 r1150 =>
                       un_b r1150 fun x1151 r1152 =>
                       un_i r1152 fun x1153 r1154 =>
                       un_b r1154 fun x1155 r1156 =>
                       un_i r1156 fun x1157 r1158 =>
                       un_i r1158 fun x1159 r1160 =>
                       un_i r1160 fun x1161 r1162 =>
                       un_nil r1162 <|
                       some [.i (x1135), .i (x1137), .i (x1139), .i (x1141), .i (x1143), .b (x1145), .i (x1147), .b (x1149), .b (x1151), .i (x1153), .b (x1155), .i (x1157), .i (x1159), .i (x1161)])
                      (some [.i (x1106), .i (x1108), .i (x1110), .i (x1112), .i (x1114), .b (x1116), .i (x1118), .b (x1120), .b (false), .i (x1124), .b (x1126), .i (x1128), .i (x1130), .i (x1132)]))
                   (br (decide (x603 > 0))
                      (out (win_runsTo w_cwnd w_slow x603 w_count w_halved_n w_halved_is w_last_n w_last_is false w_due x605 x607 x609 x611 now) fun r1163 =>
                       un_i r1163 fun x1164 r1165 =>
                       un_i r1165 fun x1166 r1167 =>
                       un_i r1167 fun x1168 r1169 =>
                       un_i r1169 fun x1170 r1171 =>
                       un_i r1171 fun x1172 r1173 =>
                       un_b r1173 fun x1174 r1175 =>
                       un_i r1175 fun x1176 r1177 =>
                       un_b r1177 fun x1178 r1179 =>
                       un_b r1179 fun x1180 r1181 =>
                       un_i r1181 fun x1182 r1183 =>
                       un_b r1183 fun x1184 r1185 =>
                       un_i r1185 fun x1186 r1187 =>
                       un_i r1187 fun x1188 r1189 =>
                       un_i r1189 fun x1190 r1191 =>
                       un_nil r1191 <|
                       some [.i (x1164), .i (x1166), .i (x1168), .i (x1170), .i (x1172), .b (x1174), .i (x1176), .b (x1178), .b (x1180), .i (x1182), .b (x1184), .i (x1186), .i (x1188), .i (x1190)])
                      (some [.i (w_cwnd), .i (w_slow), .i (x603), .i (w_count), .i (w_halved_n), .b (w_halved_is), .i (w_last_n), .b (w_last_is), .b (false), .i (w_due), .b (x605), .i (x607), .i (x609), .i (x611)])))
                (br (decide (x603 > 0))
                   (out (win_runsTo w_cwnd w_slow x603 w_count w_halved_n w_halved_is w_last_n w_last_is false w_due x605 x607 x609 x611 now) fun r1192 =>
                    un_i r1192 fun x1193 r1194 =>
                    un_i r1194 fun x1195 r1196 =>
                    un_i r1196 fun x1197 r1198 =>
                    un_i r1198 fun x1199 r1200 =>
                    un_i r1200 fun x1201 r1202 =>
                    un_b r1202 fun x1203 r1204 =>
                    un_i r1204 fun x1205 r1206 =>
                    un_b r1206 fun x1207 r1208 =>
                    un_b r1208 fun x1209 r1210 =>
                    un_i r1210 fun x1211 r1212 =>
                    un_b r1212 fun x1213 r1214 =>
                    un_i r1214 fun x1215 r1216 =>
                    un_i r1216 fun x1217 r1218 =>
                    un_i r1218 fun x1219 r1220 =>
                    un_nil r1220 <|
                    some [.i (x1193), .i (x1195), .i (x1197), .i (x1199), .i (x1201), .b (x1203), .i (x1205), .b (x1207), .b (x1209), .i (x1211), .b (x1213), .i (x1215), .i (x1217), .i (x1219)])
                   (some [.i (w_cwnd), .i (w_slow), .i (x603), .i (w_count), .i (w_halved_n), .b (w_halved_is), .i (w_last_n), .b (w_last_is), .b (false), .i (w_due), .b (x605), .i (x607), .i (x609), .i (x611)]))))
          (br (decide (h_Marks > 0))
             (chk (decide (Int.ofNat (List.length h_Got) = Int.ofNat (List.length h_Got)) && (decide (Int.ofNat (List.length h_Late) = Int.ofNat (List.length h_Late)) && (decide (Int.ofNat (List.length h_Lost) = Int.ofNat (List.length h_Lost)) && true)) && true) <|
              out (win_where h_Got h_Late h_Lost h_Marks h_Rtt) fun r1221 =>
              un_i r1221 fun x1222 r1223 =>
              un_b r1223 fun x1224 r1225 =>
              un_nil r1225 <|
              br (!w_halved_is)
                (out (win_halve w_cwnd w_slow x603 w_count w_halved_n w_halved_is w_last_n w_last_is w_runs w_due x605 x607 x609 x611) fun r1226 =>
                 un_i r1226 fun x1227 r1228 =>
                 un_i r1228 fun x1229 r1230 =>
                 un_i r1230 fun x1231 r1232 =>
                 un_i r1232 fun x1233 r1234 =>
                 un_i r1234 fun x1235 r1236 =>
                 un_b r1236 fun x1237 r1238 =>
                 un_i r1238 fun x1239 r1240 =>
                 un_b r1240 fun x1241 r1242 =>
                 un_b r1242 fun x1243 r1244 =>
                 un_i r1244 fun x1245 r1246 =>
                 un_b r1246 fun x1247 r1248 =>
                 un_i r1248 fun x1249 r1250 =>
                 un_i r1250 fun x1251 r1252 =>
                 un_i r1252 fun x1253 r1254 =>
                 un_nil r1254 <|
                 br (decide (x1231 > 0))
                   (out (win_runsTo x1227 x1229 x1231 x1233 x1235 x1237 x1239 x1241 false x1245 x1247 x1249 x1251 x1253 now) fun r1255 =>
                    un_i r1255 fun x1256 r1257 =>
                    un_i r1257 fun x1258 r1259 =>
                    un_i r1259 fun x1260 r1261 =>
                    un_i r1261 fun x1262 r1263 =>
                    un_i r1263 fun x1264 r1265 =>
                    un_b r1265 fun x1266 r1267 =>
                    un_i r1267 fun x1268 r1269 =>
                    un_b r1269 fun x1270 r1271 =>
                    un_b r1271 fun x1272 r1273 =>
                    un_i r1273 fun x1274 r1275 =>
                    un_b r1275 fun x1276 r1277 =>
                    un_i r1277 fun x1278 r1279 =>
                    un_i r1279 fun x1280 r1281 =>
                    un_i r1281 fun x1282 r1283 =>
                    un_nil r1283 <|
                    some [.i (x1256), .i (x1258), .i (x1260), .i (x1262), .i (x1264), .b (x1266), .i (x1268), .b (x1270), .b (x1272), .i (x1274), .b (x1276), .i (x1278), .i (x1280), .i (x1282)])
                   (some [.i (x1227), .i (x1229), .i (x1231), .i (x1233), .i (x1235), .b (x1237), .i (x1239), .b (x1241), .b (false), .i (x1245), .b (x1247), .i (x1249), .i (x1251), .i (x1253)]))
                (br (x1224)
                   (out (seq_Less w_halved_n x1222) fun r1284 =>
                    un_b r1284 fun x1285 r1286 =>
                    un_nil r1286 <|
                    br (x1285)
                      (out (win_halve w_cwnd w_slow x603 w_count w_halved_n w_halved_is w_last_n w_last_is w_runs w_due x605 x607 x609 x611) fun r1287 =>
                       un_i r1287 fun x1288 r1289 =>
                       un_i r1289 fun x1290 r1291 =>
                       un_i r1291 fun x1292 r1293 =>
                       un_i r1293 fun x1294 r1295 =>
                       un_i r1295 fun x1296 r1297 =>
                       un_b r1297 fun x1298 r1299 =>
                       un_i r1299 fun x1300 r1301 =>
                       un_b r1301 fun x1302 r1303 =>
                       un_b r1303 fun x1304 r1305 =>
                       un_i r1305 fun x1306 r1307 =>
                       un_b r1307 fun x1308 r1309 =>
                       un_i r1309 fun x1310 r1311 =>
                       un_i r1311 fun x1312 r1313 =>
                       un_i r1313 fun x1314 r1315 =>
                       un_nil r1315 <|
                       br (decide (x1292 > 0))
                         (out (win_runsTo x1288 x1290 x1292 x1294 x1296 x1298 x1300 x1302 false x1306 x1308 x1310 x1312 x1314 now) fun r1316 =>
                          un_i r1316 fun x1317 r1318 =>
                          un_i r1318 fun x1319 r1320 =>
                          un_i r1320 fun x1321 r1322 =>
                          un_i r1322 fun x1323 r1324 =>
                          un_i r1324 fun x1325 r1326 =>
                          un_b r1326 fun x1327 r1328 =>
                          un_i r1328 fun x1329 r1330 =>
                          un_b r1330 fun x1331 r1332 =>
                          un_b r1332 fun x1333 r1334 =>
                          un_i r1334 fun x1335 r1336 =>
                          un_b r1336 fun x1337 r1338 =>
                          un_i r1338 fun x1339 r1340 =>
                          un_i r1340 fun x1341 r1342 =>
                          un_i r1342 fun x1343 r1344 =>
                          un_nil r1344 <|
                          some [.i (x1317), .i (x1319), .i (x1321), .i (x1323), .i (x1325), .b (x1327), .i (x1329), .b (x1331), .b (x1333), .i (x1335), .b (x1337), .i (x1339), .i (x1341), .i (x1343)])
                         (some [.i (x1288), .i (x1290), .i (x1292), .i (x1294), .i (x1296), .b (x1298), .i (x1300), .b (x1302), .b (false), .i (x1306), .b (x1308), .i (x1310), .i (x1312), .i (x1314)]))
                      (br (decide (x603 > 0))
                         (out (win_runsTo w_cwnd w_slow x603 w_count w_halved_n w_halved_is w_last_n w_last_is false w_due x605 x607 x609 x611 now) fun r1345 =>
                          un_i r1345 fun x1346 r1347 =>
                          un_i r1347 fun x1348 r1349 =>
                          un_i r1349 fun x1350 r1351 =>
                          un_i r1351 fun x1352 r1353 =>
                          un_i r1353 fun x1354 r1355 =>
                          un_b r1355 fun x1356 r1357 =>
                          un_i r1357 fun x1358 r1359 =>
                          un_b r1359 fun x1360 r1361 =>
                          un_b r1361 fun x1362 r1363 =>
                          un_i r1363 fun x1364 r1365 =>
                          un_b r1365 fun x1366 r1367 =>
                          un_i r1367 fun x1368 r1369 =>
                          un_i r1369 fun x1370 r1371 =>
                          un_i r1371 fun x1372 r1373 =>
                          un_nil r1373 <|
                          some [.i (x1346), .i (x1348), .i (x1350), .i (x1352), .i (x1354), .b (x1356), .i (x1358), .b (x1360), .b (x1362), .i (x1364), .b (x1366), .i (x1368), .i (x1370), .i (x1372)])
                         (some [.i (w_cwnd), .i (w_slow), .i (x603), .i (w_count), .i (w_halved_n), .b (w_halved_is), .i (w_last_n), .b (w_last_is), .b (false), .i (w_due), .b (x605), .i (x607), .i (x609), .i (x611)])))
                   (br (decide (x603 > 0))
                      (out (win_runsTo w_cwnd w_slow x603 w_count w_halved_n w_halved_is w_last_n w_last_is false w_due x605 x607 x609 x611 now) fun r1374 =>
                       un_i r1374 fun x1375 r1376 =>
                       un_i r1376 fun x1377 r1378 =>
                       un_i r1378 fun x1379 r1380 =>
                       un_i r1380 fun x1381 r1382 =>
                       un_i r1382 fun x1383 r1384 =>
                       un_b r1384 fun x1385 r1386 =>
                       un_i r1386 fun x1387 r1388 =>
                       un_b r1388 fun x1389 r1390 =>
                       un_b r1390 fun x1391 r1392 =>
                       un_i r1392 fun x1393 r1394 =>
                       un_b r1394 fun x1395 r1396 =>
                       un_i r1396 fun x1397 r1398 =>
                       un_i r1398 fun x1399 r1400 =>
                       un_i r1400 fun x1401 r1402 =>
                       un_nil r1402 <|
                       some [.i (x1375), .i (x1377), .i (x1379), .i (x1381), .i (x1383), .b (x1385), .i (x1387), .b (x1389), .b (x1391), .i (x1393), .b (x1395), .i (x1397), .i (x1399), .i (x1401)])
                      (some [.i (w_cwnd), .i (w_slow), .i (x603), .i (w_count), .i (w_halved_n), .b (w_halved_is), .i (w_last_n), .b (w_last_is), .b (false), .i (w_due), .b (x605), .i (x607), .i (x609), .i (x611)]))))
             (br (decide (x603 > 0))
                (out (win_runsTo w_cwnd w_slow x603 w_count w_halved_n w_halved_is w_last_n w_last_is false w_due x605 x607 x609 x611 now) fun r1403 =>
                 un_i r1403 fun x1404 r1405 =>
                 un_i r1405 fun x1406 r1407 =>
                 un_i r1407 fun x1408 r1409 =>
                 un_i r1409 fun x1410 r1411 =>
                 un_i r1411 fun x1412 r1413 =>
                 un_b r1413 fun x1414 r1415 =>
                 un_i r1415 fun x1416 r1417 =>
                 un_b r1417 fun x1418 r1419 =>
                 un_b r1419 fun x1420 r1421 =>
                 un_i r1421 fun x1422 r1423 =>
                 un_b r1423 fun x1424 r1425 =>
                 un_i r1425 fun x1426 r1427 =>
                 un_i r1427 fun x1428 r1429 =>
                 un_i r1429 fun x1430 r1431 =>
                 un_nil r1431 <|
                 some [.i (x1404), .i (x1406), .i (x1408), .i (x1410), .i (x1412), .b (x1414), .i (x1416), .b (x1418), .b (x1420), .i (x1422), .b (x1424), .i (x1426), .i (x1428), .i (x1430)])
                (some [.i (w_cwnd), .i (w_slow), .i (x603), .i (w_count), .i (w_halved_n), .b (w_halved_is), .i (w_last_n), .b (w_last_is), .b (false), .i (w_due), .b (x605), .i (x607), .i (x609), .i (x611)])))))
    (one (Int.ofNat (List.length h_Got)) fun x1432 =>
     br (decide (x1432 > 0))
       (one (Int.ofNat (List.length h_Got)) fun x1433 =>
        out (win_grow w_cwnd w_slow x603 w_count w_halved_n w_halved_is w_last_n w_last_is w_runs w_due w_rtt_any w_rtt_smooth w_rtt_spread w_rtt_rto x1433) fun r1434 =>
        un_i r1434 fun x1435 r1436 =>
        un_i r1436 fun x1437 r1438 =>
        un_i r1438 fun x1439 r1440 =>
        un_i r1440 fun x1441 r1442 =>
        un_i r1442 fun x1443 r1444 =>
        un_b r1444 fun x1445 r1446 =>
        un_i r1446 fun x1447 r1448 =>
        un_b r1448 fun x1449 r1450 =>
        un_b r1450 fun x1451 r1452 =>
        un_i r1452 fun x1453 r1454 =>
        un_b r1454 fun x1455 r1456 =>
        un_i r1456 fun x1457 r1458 =>
        un_i r1458 fun x1459 r1460 =>
        un_i r1460 fun x1461 r1462 =>
        un_nil r1462 <|
        one (Int.ofNat (List.length h_Lost)) fun x1463 =>
        br (decide (x1463 > 0))
          (chk (decide (Int.ofNat (List.length h_Got) = Int.ofNat (List.length h_Got)) && (decide (Int.ofNat (List.length h_Late) = Int.ofNat (List.length h_Late)) && (decide (Int.ofNat (List.length h_Lost) = Int.ofNat (List.length h_Lost)) && true)) && true) <|
           out (win_where h_Got h_Late h_Lost h_Marks h_Rtt) fun r1464 =>
           un_i r1464 fun x1465 r1466 =>
           un_b r1466 fun x1467 r1468 =>
           un_nil r1468 <|
           br (!x1445)
             (out (win_halve x1435 x1437 x1439 x1441 x1443 x1445 x1447 x1449 x1451 x1453 x1455 x1457 x1459 x1461) fun r1469 =>
              un_i r1469 fun x1470 r1471 =>
              un_i r1471 fun x1472 r1473 =>
              un_i r1473 fun x1474 r1475 =>
              un_i r1475 fun x1476 r1477 =>
              un_i r1477 fun x1478 r1479 =>
              un_b r1479 fun x1480 r1481 =>
              un_i r1481 fun x1482 r1483 =>
              un_b r1483 fun x1484 r1485 =>
              un_b r1485 fun x1486 r1487 =>
              un_i r1487 fun x1488 r1489 =>
              un_b r1489 fun x1490 r1491 =>
              un_i r1491 fun x1492 r1493 =>
              un_i r1493 fun x1494 r1495 =>
              un_i r1495 fun x1496 r1497 =>
              un_nil r1497 <|
              br (decide (x1474 > 0))
                (out (win_runsTo x1470 x1472 x1474 x1476 x1478 x1480 x1482 x1484 false x1488 x1490 x1492 x1494 x1496 now) fun r1498 =>
                 un_i r1498 fun x1499 r1500 =>
                 un_i r1500 fun x1501 r1502 =>
                 un_i r1502 fun x1503 r1504 =>
                 un_i r1504 fun x1505 r1506 =>
                 un_i r1506 fun x1507 r1508 =>
                 un_b r1508 fun x1509 r1510 =>
                 un_i r1510 fun x1511 r1512 =>
                 un_b r1512 fun x1513 r1514 =>
                 un_b r1514 fun x1515 r1516 =>
                 un_i r1516 fun x1517 r1518 =>
                 un_b r1518 fun x1519 r1520 =>
                 un_i r1520 fun x1521 r1522 =>
                 un_i r1522 fun x1523 r1524 =>
                 un_i r1524 fun x1525 r1526 =>
                 un_nil r1526 <|
                 some [.i (x1499), .i (x1501), .i (x1503), .i (x1505), .i (x1507), .b (x1509), .i (x1511), .b (x1513), .b (x1515), .i (x1517), .b (x1519), .i (x1521), .i (x1523), .i (x1525)])
                (some [.i (x1470), .i (x1472), .i (x1474), .i (x1476), .i (x1478), .b (x1480), .i (x1482), .b (x1484), .b (false), .i (x1488), .b (x1490), .i (x1492), .i (x1494), .i (x1496)]))
             (br (x1467)
                (out (seq_Less x1443 x1465) fun r1527 =>
                 un_b r1527 fun x1528 r1529 =>
                 un_nil r1529 <|
                 br (x1528)
                   (out (win_halve x1435 x1437 x1439 x1441 x1443 x1445 x1447 x1449 x1451 x1453 x1455 x1457 x1459 x1461) fun r1530 =>
                    un_i r1530 fun x1531 r1532 =>
                    un_i r1532 fun x1533 r1534 =>
                    un_i r1534 fun x1535 r1536 =>
                    un_i r1536 fun x1537 r1538 =>
                    un_i r1538 fun x1539 r1540 =>
                    un_b r1540 fun x1541 r1542 =>
                    un_i r1542 fun x1543 r1544 =>
                    un_b r1544 fun x1545 r1546 =>
                    un_b r1546 fun x1547 r1548 =>
                    un_i r1548 fun x1549 r1550 =>
                    un_b r1550 fun x1551 r1552 =>
                    un_i r1552 fun x1553 r1554 =>
                    un_i r1554 fun x1555 r1556 =>
                    un_i r1556 fun x1557 r1558 =>
                    un_nil r1558 <|
                    br (decide (x1535 > 0))
                      (out (win_runsTo x1531 x1533 x1535 x1537 x1539 x1541 x1543 x1545 false x1549 x1551 x1553 x1555 x1557 now) fun r1559 =>
                       un_i r1559 fun x1560 r1561 =>
                       un_i r1561 fun x1562 r1563 =>
                       un_i r1563 fun x1564 r1565 =>
                       un_i r1565 fun x1566 r1567 =>
                       un_i r1567 fun x1568 r1569 =>
                       un_b r1569 fun x1570 r1571 =>
                       un_i r1571 fun x1572 r1573 =>
                       un_b r1573 fun x1574 r1575 =>
                       un_b r1575 fun x1576 r1577 =>
                       un_i r1577 fun x1578 r1579 =>
                       un_b r1579 fun x1580 r1581 =>
                       un_i r1581 fun x1582 r1583 =>
                       un_i r1583 fun x1584 r1585 =>
                       un_i r1585 fun x1586 r1587 =>
                       un_nil r1587 <|
                       some [.i (x1560), .i (x1562), .i (x1564), .i (x1566), .i (x1568), .b (x1570), .i (x1572), .b (x1574), .b (x1576), .i (x1578), .b (x1580), .i (x1582), .i (x1584), .i (x1586)])
                      (some [.i (x1531), .i (x1533), .i (x1535), .i (x1537), .i (x1539), .b (x1541), .i (x1543), .b (x1545), .b (false), .i (x1549), .b (x1551), .i (x1553), .i (x1555), .i (x1557)]))
                   (br (decide (x1439 > 0))
                      (out (win_runsTo x1435 x1437 x1439 x1441 x1443 x1445 x1447 x1449 false x1453 x1455 x1457 x1459 x1461 now) fun r1588 =>
                       un_i r1588 fun x1589 r1590 =>
                       un_i r1590 fun x1591 r1592 =>
                       un_i r1592 fun x1593 r1594 =>
                       un_i r1594 fun x1595 r1596 =>
                       un_i r1596 fun x1597 r1598 =>
                       un_b r1598 fun x1599 r1600 =>
                       un_i r1600 fun x1601 r1602 =>
                       un_b r1602 fun x1603 r1604 =>
                       un_b r1604 fun x1605 r1606 =>
                       un_i r1606 fun x1607 r1608 =>
                       un_b r1608 fun x1609 r1610 =>
                       un_i r1610 fun x1611 r1612 =>
                       un_i r1612 fun x1613 r1614 =>
                       un_i r1614 fun x1615 r1616 =>
                       un_nil r1616 <|
                       some [.i (x1589), .i (x1591), .i (x1593), .i (x1595), .i (x1597), .b (x1599), .i (x1601), .b (x1603), .b (x1605), .i (x1607), .b (x1609), .i (x1611), .i (x1613), .i (x1615)])
                      (some [.i (x1435), .i (x1437), .i (x1439), .i (x1441), .i (x1443), .b (x1445), .i (x1447), .b (x1449), .b (false), .i (x1453), .b (x1455), .i (x1457), .i (x1459), .i (x1461)])))
                (br (decide (x1439 > 0))
                   (out (win_runsTo x1435 x1437 x1439 x1441 x1443 x1445 x1447 x1449 false x1453 x1455 x1457 x1459 x1461 now) fun r1617 =>
                    un_i r1617 fun x1618 r1619 =>
                    un_i r1619 fun x1620 r1621 =>
                    un_i r1621 fun x1622 r1623 =>
                    un_i r1623 fun x1624 r1625 =>
                    un_i r1625 fun x1626 r1627 =>
                    un_b r1627 fun x1628 r1629 =>
                    un_i r1629 fun x1630 r1631 =>
                    un_b r1631 fun x1632 r1633 =>
                    un_b r1633 fun x1634 r1635 =>
                    un_i r1635 fun x1636 r1637 =>
                    un_b r1637 fun x1638 r1639 =>
                    un_i r1639 fun x1640 r1641 =>
                    un_i r1641 fun x1642 r1643 =>
                    un_i r1643 fun x1644 r1645 =>
                    un_nil r1645 <|
                    some [.i (x1618), .i (x1620), .i (x1622), .i (x1624), .i (x1626), .b (x1628), .i (x1630), .b (x1632), .b (x1634), .i (x1636), .b (x1638), .i (x1640), .i (x1642), .i (x1644)])
                   (some [.i (x1435), .i (x1437), .i (x1439), .i (x1441), .i (x1443), .b (x1445), .i (x1447), .b (x1449), .b (false), .i (x1453), .b (x1455), .i (x1457), .i (x1459), .i (x1461)]))))
          (br (decide (h_Marks > 0))
             (chk (decide (Int.ofNat (List.length h_Got) = Int.ofNat (List.length h_Got)) && (decide (Int.ofNat (List.length h_Late) = Int.ofNat (List.length h_Late)) && (decide (Int.ofNat (List.length h_Lost) = Int.ofNat (List.length h_Lost)) && true)) && true) <|
              out (win_where h_Got h_Late h_Lost h_Marks h_Rtt) fun r1646 =>
              un_i r1646 fun x1647 r1648 =>
              un_b r1648 fun x1649 r1650 =>
              un_nil r1650 <|
              br (!x1445)
                (out (win_halve x1435 x1437 x1439 x1441 x1443 x1445 x1447 x1449 x1451 x1453 x1455 x1457 x1459 x1461) fun r1651 =>
                 un_i r1651 fun x1652 r1653 =>
                 un_i r1653 fun x1654 r1655 =>
                 un_i r1655 fun x1656 r1657 =>
                 un_i r1657 fun x1658 r1659 =>
                 un_i r1659 fun x1660 r1661 =>
                 un_b r1661 fun x1662 r1663 =>
                 un_i r1663 fun x1664 r1665 =>
                 un_b r1665 fun x1666 r1667 =>
                 un_b r1667 fun x1668 r1669 =>
                 un_i r1669 fun x1670 r1671 =>
                 un_b r1671 fun x1672 r1673 =>
                 un_i r1673 fun x1674 r1675 =>
                 un_i r1675 fun x1676 r1677 =>
                 un_i r1677 fun x1678 r1679 =>
                 un_nil r1679 <|
                 br (decide (x1656 > 0))
                   (out (win_runsTo x1652 x1654 x1656 x1658 x1660 x1662 x1664 x1666 false x1670 x1672 x1674 x1676 x1678 now) fun r1680 =>
                    un_i r1680 fun x1681 r1682 =>
                    un_i r1682 fun x1683 r1684 =>
                    un_i r1684 fun x1685 r1686 =>
                    un_i r1686 fun x1687 r1688 =>
                    un_i r1688 fun x1689 r1690 =>
                    un_b r1690 fun x1691 r1692 =>
                    un_i r1692 fun x1693 r1694 =>
                    un_b r1694 fun x1695 r1696 =>
                    un_b r1696 fun x1697 r1698 =>
                    un_i r1698 fun x1699 r1700 =>
                    un_b r1700 fun x1701 r1702 =>
                    un_i r1702 fun x1703 r1704 =>
                    un_i r1704 fun x1705 r1706 =>
                    un_i r1706 fun x1707 r1708 =>
                    un_nil r1708 <|
                    some [.i (x1681), .i (x1683), .i (x1685), .i (x1687), .i (x1689), .b (x1691), .i (x1693), .b (x1695), .b (x1697), .i (x1699), .b (x1701), .i (x1703), .i (x1705), .i (x1707)])
                   (some [.i (x1652), .i (x1654), .i (x1656), .i (x1658), .i (x1660), .b (x1662), .i (x1664), .b (x1666), .b (false), .i (x1670), .b (x1672), .i (x1674), .i (x1676), .i (x1678)]))
                (br (x1649)
                   (out (seq_Less x1443 x1647) fun r1709 =>
                    un_b r1709 fun x1710 r1711 =>
                    un_nil r1711 <|
                    br (x1710)
                      (out (win_halve x1435 x1437 x1439 x1441 x1443 x1445 x1447 x1449 x1451 x1453 x1455 x1457 x1459 x1461) fun r1712 =>
                       un_i r1712 fun x1713 r1714 =>
                       un_i r1714 fun x1715 r1716 =>
                       un_i r1716 fun x1717 r1718 =>
                       un_i r1718 fun x1719 r1720 =>
                       un_i r1720 fun x1721 r1722 =>
                       un_b r1722 fun x1723 r1724 =>
                       un_i r1724 fun x1725 r1726 =>
                       un_b r1726 fun x1727 r1728 =>
                       un_b r1728 fun x1729 r1730 =>
                       un_i r1730 fun x1731 r1732 =>
                       un_b r1732 fun x1733 r1734 =>
                       un_i r1734 fun x1735 r1736 =>
                       un_i r1736 fun x1737 r1738 =>
                       un_i r1738 fun x1739 r1740 =>
                       un_nil r1740 <|
                       br (decide (x1717 > 0))
                         (out (win_runsTo x1713 x1715 x1717 x1719 x1721 x1723 x1725 x1727 false x1731 x1733 x1735 x1737 x1739 now) fun r1741 =>
                          un_i r1741 fun x1742 r1743 =>
                          un_i r1743 fun x1744 r1745 =>
                          un_i r1745 fun x1746 r1747 =>
                          un_i r1747 fun x1748 r1749 =>
                          un_i r1749 fun x1750 r1751 =>
                          un_b r1751 fun x1752 r1753 =>
                          un_i r1753 fun x1754 r1755 =>
                          un_b r1755 fun x1756 r1757 =>
                          un_b r1757 fun x1758 r1759 =>
                          un_i r1759 fun x1760 r1761 =>
                          un_b r1761 fun x1762 r1763 =>
                          un_i r1763 fun x1764 r1765 =>
                          un_i r1765 fun x1766 r1767 =>
                          un_i r1767 fun x1768 r1769 =>
                          un_nil r1769 <|
                          some [.i (x1742), .i (x1744), .i (x1746), .i (x1748), .i (x1750), .b (x1752), .i (x1754), .b (x1756), .b (x1758), .i (x1760), .b (x1762), .i (x1764), .i (x1766), .i (x1768)])
                         (some [.i (x1713), .i (x1715), .i (x1717), .i (x1719), .i (x1721), .b (x1723), .i (x1725), .b (x1727), .b (false), .i (x1731), .b (x1733), .i (x1735), .i (x1737), .i (x1739)]))
                      (br (decide (x1439 > 0))
                         (out (win_runsTo x1435 x1437 x1439 x1441 x1443 x1445 x1447 x1449 false x1453 x1455 x1457 x1459 x1461 now) fun r1770 =>
                          un_i r1770 fun x1771 r1772 =>
                          un_i r1772 fun x1773 r1774 =>
                          un_i r1774 fun x1775 r1776 =>
                          un_i r1776 fun x1777 r1778 =>
                          un_i r1778 fun x1779 r1780 =>
                          un_b r1780 fun x1781 r1782 =>
                          un_i r1782 fun x1783 r1784 =>
                          un_b r1784 fun x1785 r1786 =>
                          un_b r1786 fun x1787 r1788 =>
                          un_i r1788 fun x1789 r1790 =>
                          un_b r1790 fun x1791 r1792 =>
                          un_i r1792 fun x1793 r1794 =>
                          un_i r1794 fun x1795 r1796 =>
                          un_i r1796 fun x1797 r1798 =>
                          un_nil r1798 <|
                          some [.i (x1771), .i (x1773), .i (x1775), .i (x1777), .i (x1779), .b (x1781), .i (x1783), .b (x1785), .b (x1787), .i (x1789), .b (x1791), .i (x1793), .i (x1795), .i (x1797)])
                         (some [.i (x1435), .i (x1437), .i (x1439), .i (x1441), .i (x1443), .b (x1445), .i (x1447), .b (x1449), .b (false), .i (x1453), .b (x1455), .i (x1457), .i (x1459), .i (x1461)])))
                   (br (decide (x1439 > 0))
                      (out (win_runsTo x1435 x1437 x1439 x1441 x1443 x1445 x1447 x1449 false x1453 x1455 x1457 x1459 x1461 now) fun r1799 =>
                       un_i r1799 fun x1800 r1801 =>
                       un_i r1801 fun x1802 r1803 =>
                       un_i r1803 fun x1804 r1805 =>
                       un_i r1805 fun x1806 r1807 =>
                       un_i r1807 fun x1808 r1809 =>
                       un_b r1809 fun x1810 r1811 =>
                       un_i r1811 fun x1812 r1813 =>
                       un_b r1813 fun x1814 r1815 =>
                       un_b r1815 fun x1816 r1817 =>
                       un_i r1817 fun x1818 r1819 =>
                       un_b r1819 fun x1820 r1821 =>
                       un_i r1821 fun x1822 r1823 =>
                       un_i r1823 fun x1824 r1825 =>
                       un_i r1825 fun x1826 r1827 =>
                       un_nil r1827 <|
                       some [.i (x1800), .i (x1802), .i (x1804), .i (x1806), .i (x1808), .b (x1810), .i (x1812), .b (x1814), .b (x1816), .i (x1818), .b (x1820), .i (x1822), .i (x1824), .i (x1826)])
                      (some [.i (x1435), .i (x1437), .i (x1439), .i (x1441), .i (x1443), .b (x1445), .i (x1447), .b (x1449), .b (false), .i (x1453), .b (x1455), .i (x1457), .i (x1459), .i (x1461)]))))
             (br (decide (x1439 > 0))
                (out (win_runsTo x1435 x1437 x1439 x1441 x1443 x1445 x1447 x1449 false x1453 x1455 x1457 x1459 x1461 now) fun r1828 =>
                 un_i r1828 fun x1829 r1830 =>
                 un_i r1830 fun x1831 r1832 =>
                 un_i r1832 fun x1833 r1834 =>
                 un_i r1834 fun x1835 r1836 =>
                 un_i r1836 fun x1837 r1838 =>
                 un_b r1838 fun x1839 r1840 =>
                 un_i r1840 fun x1841 r1842 =>
                 un_b r1842 fun x1843 r1844 =>
                 un_b r1844 fun x1845 r1846 =>
                 un_i r1846 fun x1847 r1848 =>
                 un_b r1848 fun x1849 r1850 =>
                 un_i r1850 fun x1851 r1852 =>
                 un_i r1852 fun x1853 r1854 =>
                 un_i r1854 fun x1855 r1856 =>
                 un_nil r1856 <|
                 some [.i (x1829), .i (x1831), .i (x1833), .i (x1835), .i (x1837), .b (x1839), .i (x1841), .b (x1843), .b (x1845), .i (x1847), .b (x1849), .i (x1851), .i (x1853), .i (x1855)])
                (some [.i (x1435), .i (x1437), .i (x1439), .i (x1441), .i (x1443), .b (x1445), .i (x1447), .b (x1449), .b (false), .i (x1453), .b (x1455), .i (x1457), .i (x1459), .i (x1461)]))))
       (one (Int.ofNat (List.length h_Lost)) fun x1857 =>
        br (decide (x1857 > 0))
          (chk (decide (Int.ofNat (List.length h_Got) = Int.ofNat (List.length h_Got)) && (decide (Int.ofNat (List.length h_Late) = Int.ofNat (List.length h_Late)) && (decide (Int.ofNat (List.length h_Lost) = Int.ofNat (List.length h_Lost)) && true)) && true) <|
           out (win_where h_Got h_Late h_Lost h_Marks h_Rtt) fun r1858 =>
           un_i r1858 fun x1859 r1860 =>
           un_b r1860 fun x1861 r1862 =>
           un_nil r1862 <|
           br (!w_halved_is)
             (out (win_halve w_cwnd w_slow x603 w_count w_halved_n w_halved_is w_last_n w_last_is w_runs w_due w_rtt_any w_rtt_smooth w_rtt_spread w_rtt_rto) fun r1863 =>
              un_i r1863 fun x1864 r1865 =>
              un_i r1865 fun x1866 r1867 =>
              un_i r1867 fun x1868 r1869 =>
              un_i r1869 fun x1870 r1871 =>
              un_i r1871 fun x1872 r1873 =>
              un_b r1873 fun x1874 r1875 =>
              un_i r1875 fun x1876 r1877 =>
              un_b r1877 fun x1878 r1879 =>
              un_b r1879 fun x1880 r1881 =>
              un_i r1881 fun x1882 r1883 =>
              un_b r1883 fun x1884 r1885 =>
              un_i r1885 fun x1886 r1887 =>
              un_i r1887 fun x1888 r1889 =>
              un_i r1889 fun x1890 r1891 =>
              un_nil r1891 <|
              br (decide (x1868 > 0))
                (out (win_runsTo x1864 x1866 x1868 x1870 x1872 x1874 x1876 x1878 false x1882 x1884 x1886 x1888 x1890 now) fun r1892 =>
                 un_i r1892 fun x1893 r1894 =>
                 un_i r1894 fun x1895 r1896 =>
                 un_i r1896 fun x1897 r1898 =>
                 un_i r1898 fun x1899 r1900 =>
                 un_i r1900 fun x1901 r1902 =>
                 un_b r1902 fun x1903 r1904 =>
                 un_i r1904 fun x1905 r1906 =>
                 un_b r1906 fun x1907 r1908 =>
                 un_b r1908 fun x1909 r1910 =>
                 un_i r1910 fun x1911 r1912 =>
                 un_b r1912 fun x1913 r1914 =>
                 un_i r1914 fun x1915 r1916 =>
                 un_i r1916 fun x1917 r1918 =>
                 un_i r1918 fun x1919 r1920 =>
                 un_nil r1920 <|
                 some [.i (x1893), .i (x1895), .i (x1897), .i (x1899), .i (x1901), .b (x1903), .i (x1905), .b (x1907), .b (x1909), .i (x1911), .b (x1913), .i (x1915), .i (x1917), .i (x1919)])
                (some [.i (x1864), .i (x1866), .i (x1868), .i (x1870), .i (x1872), .b (x1874), .i (x1876), .b (x1878), .b (false), .i (x1882), .b (x1884), .i (x1886), .i (x1888), .i (x1890)]))
             (br (x1861)
                (out (seq_Less w_halved_n x1859) fun r1921 =>
                 un_b r1921 fun x1922 r1923 =>
                 un_nil r1923 <|
                 br (x1922)
                   (out (win_halve w_cwnd w_slow x603 w_count w_halved_n w_halved_is w_last_n w_last_is w_runs w_due w_rtt_any w_rtt_smooth w_rtt_spread w_rtt_rto) fun r1924 =>
                    un_i r1924 fun x1925 r1926 =>
                    un_i r1926 fun x1927 r1928 =>
                    un_i r1928 fun x1929 r1930 =>
                    un_i r1930 fun x1931 r1932 =>
                    un_i r1932 fun x1933 r1934 =>
                    un_b r1934 fun x1935 r1936 =>
                    un_i r1936 fun x1937 r1938 =>
                    un_b r1938 fun x1939 r1940 =>
                    un_b r1940 fun x1941 r1942 =>
                    un_i r1942 fun x1943 r1944 =>
                    un_b r1944 fun x1945 r1946 =>
                    un_i r1946 fun x1947 r1948 =>
                    un_i r1948 fun x1949 r1950 =>
                    un_i r1950 fun x1951 r1952 =>
                    un_nil r1952 <|
                    br (decide (x1929 > 0))
                      (out (win_runsTo x1925 x1927 x1929 x1931 x1933 x1935 x1937 x1939 false x1943 x1945 x1947 x1949 x1951 now) fun r1953 =>
                       un_i r1953 fun x1954 r1955 =>
                       un_i r1955 fun x1956 r1957 =>
                       un_i r1957 fun x1958 r1959 =>
                       un_i r1959 fun x1960 r1961 =>
                       un_i r1961 fun x1962 r1963 =>
                       un_b r1963 fun x1964 r1965 =>
                       un_i r1965 fun x1966 r1967 =>
                       un_b r1967 fun x1968 r1969 =>
                       un_b r1969 fun x1970 r1971 =>
                       un_i r1971 fun x1972 r1973 =>
                       un_b r1973 fun x1974 r1975 =>
                       un_i r1975 fun x1976 r1977 =>
                       un_i r1977 fun x1978 r1979 =>
                       un_i r1979 fun x1980 r1981 =>
                       un_nil r1981 <|
                       some [.i (x1954), .i (x1956), .i (x1958), .i (x1960), .i (x1962), .b (x1964), .i (x1966), .b (x1968), .b (x1970), .i (x1972), .b (x1974), .i (x1976), .i (x1978), .i (x1980)])
                      (some [.i (x1925), .i (x1927), .i (x1929), .i (x1931), .i (x1933), .b (x1935), .i (x1937), .b (x1939), .b (false), .i (x1943), .b (x1945), .i (x1947), .i (x1949), .i (x1951)]))
                   (br (decide (x603 > 0))
                      (out (win_runsTo w_cwnd w_slow x603 w_count w_halved_n w_halved_is w_last_n w_last_is false w_due w_rtt_any w_rtt_smooth w_rtt_spread w_rtt_rto now) fun r1982 =>
                       un_i r1982 fun x1983 r1984 =>
                       un_i r1984 fun x1985 r1986 =>
                       un_i r1986 fun x1987 r1988 =>
                       un_i r1988 fun x1989 r1990 =>
                       un_i r1990 fun x1991 r1992 =>
                       un_b r1992 fun x1993 r1994 =>
                       un_i r1994 fun x1995 r1996 =>
                       un_b r1996 fun x1997 r1998 =>
                       un_b r1998 fun x1999 r2000 =>
                       un_i r2000 fun x2001 r2002 =>
                       un_b r2002 fun x2003 r2004 =>
                       un_i r2004 fun x2005 r2006 =>
                       un_i r2006 fun x2007 r2008 =>
                       un_i r2008 fun x2009 r2010 =>
                       un_nil r2010 <|
                       some [.i (x1983), .i (x1985), .i (x1987), .i (x1989), .i (x1991), .b (x1993), .i (x1995), .b (x1997), .b (x1999), .i (x2001), .b (x2003), .i (x2005), .i (x2007), .i (x2009)])
                      (some [.i (w_cwnd), .i (w_slow), .i (x603), .i (w_count), .i (w_halved_n), .b (w_halved_is), .i (w_last_n), .b (w_last_is), .b (false), .i (w_due), .b (w_rtt_any), .i (w_rtt_smooth), .i (w_rtt_spread), .i (w_rtt_rto)])))
                (br (decide (x603 > 0))
                   (out (win_runsTo w_cwnd w_slow x603 w_count w_halved_n w_halved_is w_last_n w_last_is false w_due w_rtt_any w_rtt_smooth w_rtt_spread w_rtt_rto now) fun r2011 =>
                    un_i r2011 fun x2012 r2013 =>
                    un_i r2013 fun x2014 r2015 =>
                    un_i r2015 fun x2016 r2017 =>
                    un_i r2017 fun x2018 r2019 =>
                    un_i r2019 fun x2020 r2021 =>
                    un_b r2021 fun x2022 r2023 =>
                    un_i r2023 fun x2024 r2025 =>
                    un_b r2025 fun x2026 r2027 =>
                    un_b r2027 fun x2028 r2029 =>
                    un_i r2029 fun x2030 r2031 =>
                    un_b r2031 fun x2032 r2033 =>
                    un_i r2033 fun x2034 r2035 =>
                    un_i r2035 fun x2036 r2037 =>
                    un_i r2037 fun x2038 r2039 =>
                    un_nil r2039 <|
                    some [.i (x2012), .i (x2014), .i (x2016), .i (x2018), .i (x2020), .b (x2022), .i (x2024), .b (x2026), .b (x2028), .i (x2030), .b (x2032), .i (x2034), .i (x2036), .i (x2038)])
                   (some [.i (w_cwnd), .i (w_slow), .i (x603), .i (w_count), .i (w_halved_n), .b (w_halved_is), .i (w_last_n), .b (w_last_is), .b (false), .i (w_due), .b (w_rtt_any), .i (w_rtt_smooth), .i (w_rtt_spread), .i (w_rtt_rto)]))))
          (br (decide (h_Marks > 0))
             (chk (decide (Int.ofNat (List.length h_Got) = Int.ofNat (List.length h_Got)) && (decide (Int.ofNat (List.length h_Late) = Int.ofNat (List.length h_Late)) && (decide (Int.ofNat (List.length h_Lost) = Int.ofNat (List.length h_Lost)) && true)) && true) <|
              out (win_where h_Got h_Late h_Lost h_Marks h_Rtt) fun r2040 =>
              un_i r2040 fun x2041 r2042 =>
              un_b r2042 fun x2043 r2044 =>
              un_nil r2044 <|
              br (!w_halved_is)
                (out (win_halve w_cwnd w_slow x603 w_count w_halved_n w_halved_is w_last_n w_last_is w_runs w_due w_rtt_any w_rtt_smooth w_rtt_spread w_rtt_rto) fun r2045 =>
                 un_i r2045 fun x2046 r2047 =>
                 un_i r2047 fun x2048 r2049 =>
                 un_i r2049 fun x2050 r2051 =>
                 un_i r2051 fun x2052 r2053 =>
                 un_i r2053 fun x2054 r2055 =>
                 un_b r2055 fun x2056 r2057 =>
                 un_i r2057 fun x2058 r2059 =>
                 un_b r2059 fun x2060 r2061 =>
                 un_b r2061 fun x2062 r2063 =>
                 un_i r2063 fun x2064 r2065 =>
                 un_b r2065 fun x2066 r2067 =>
                 un_i r2067 fun x2068 r2069 =>
                 un_i r2069 fun x2070 r2071 =>
                 un_i r2071 fun x2072 r2073 =>
                 un_nil r2073 <|
                 br (decide (x2050 > 0))
                   (out (win_runsTo x2046 x2048 x2050 x2052 x2054 x2056 x2058 x2060 false x2064 x2066 x2068 x2070 x2072 now) fun r2074 =>
                    un_i r2074 fun x2075 r2076 =>
                    un_i r2076 fun x2077 r2078 =>
                    un_i r2078 fun x2079 r2080 =>
                    un_i r2080 fun x2081 r2082 =>
                    un_i r2082 fun x2083 r2084 =>
                    un_b r2084 fun x2085 r2086 =>
                    un_i r2086 fun x2087 r2088 =>
                    un_b r2088 fun x2089 r2090 =>
                    un_b r2090 fun x2091 r2092 =>
                    un_i r2092 fun x2093 r2094 =>
                    un_b r2094 fun x2095 r2096 =>
                    un_i r2096 fun x2097 r2098 =>
                    un_i r2098 fun x2099 r2100 =>
                    un_i r2100 fun x2101 r2102 =>
                    un_nil r2102 <|
                    some [.i (x2075), .i (x2077), .i (x2079), .i (x2081), .i (x2083), .b (x2085), .i (x2087), .b (x2089), .b (x2091), .i (x2093), .b (x2095), .i (x2097), .i (x2099), .i (x2101)])
                   (some [.i (x2046), .i (x2048), .i (x2050), .i (x2052), .i (x2054), .b (x2056), .i (x2058), .b (x2060), .b (false), .i (x2064), .b (x2066), .i (x2068), .i (x2070), .i (x2072)]))
                (br (x2043)
                   (out (seq_Less w_halved_n x2041) fun r2103 =>
                    un_b r2103 fun x2104 r2105 =>
                    un_nil r2105 <|
                    br (x2104)
                      (out (win_halve w_cwnd w_slow x603 w_count w_halved_n w_halved_is w_last_n w_last_is w_runs w_due w_rtt_any w_rtt_smooth w_rtt_spread w_rtt_rto) fun r2106 =>
                       un_i r2106 fun x2107 r2108 =>
                       un_i r2108 fun x2109 r2110 =>
                       un_i r2110 fun x2111 r2112 =>
                       un_i r2112 fun x2113 r2114 =>
                       un_i r2114 fun x2115 r2116 =>
                       un_b r2116 fun x2117 r2118 =>
                       un_i r2118 fun x2119 r2120 =>
                       un_b r2120 fun x2121 r2122 =>
                       un_b r2122 fun x2123 r2124 =>
                       un_i r2124 fun x2125 r2126 =>
                       un_b r2126 fun x2127 r2128 =>
                       un_i r2128 fun x2129 r2130 =>
                       un_i r2130 fun x2131 r2132 =>
                       un_i r2132 fun x2133 r2134 =>
                       un_nil r2134 <|
                       br (decide (x2111 > 0))
                         (out (win_runsTo x2107 x2109 x2111 x2113 x2115 x2117 x2119 x2121 false x2125 x2127 x2129 x2131 x2133 now) fun r2135 =>
                          un_i r2135 fun x2136 r2137 =>
                          un_i r2137 fun x2138 r2139 =>
                          un_i r2139 fun x2140 r2141 =>
                          un_i r2141 fun x2142 r2143 =>
                          un_i r2143 fun x2144 r2145 =>
                          un_b r2145 fun x2146 r2147 =>
                          un_i r2147 fun x2148 r2149 =>
                          un_b r2149 fun x2150 r2151 =>
                          un_b r2151 fun x2152 r2153 =>
                          un_i r2153 fun x2154 r2155 =>
                          un_b r2155 fun x2156 r2157 =>
                          un_i r2157 fun x2158 r2159 =>
                          un_i r2159 fun x2160 r2161 =>
                          un_i r2161 fun x2162 r2163 =>
                          un_nil r2163 <|
                          some [.i (x2136), .i (x2138), .i (x2140), .i (x2142), .i (x2144), .b (x2146), .i (x2148), .b (x2150), .b (x2152), .i (x2154), .b (x2156), .i (x2158), .i (x2160), .i (x2162)])
                         (some [.i (x2107), .i (x2109), .i (x2111), .i (x2113), .i (x2115), .b (x2117), .i (x2119), .b (x2121), .b (false), .i (x2125), .b (x2127), .i (x2129), .i (x2131), .i (x2133)]))
                      (br (decide (x603 > 0))
                         (out (win_runsTo w_cwnd w_slow x603 w_count w_halved_n w_halved_is w_last_n w_last_is false w_due w_rtt_any w_rtt_smooth w_rtt_spread w_rtt_rto now) fun r2164 =>
                          un_i r2164 fun x2165 r2166 =>
                          un_i r2166 fun x2167 r2168 =>
                          un_i r2168 fun x2169 r2170 =>
                          un_i r2170 fun x2171 r2172 =>
                          un_i r2172 fun x2173 r2174 =>
                          un_b r2174 fun x2175 r2176 =>
                          un_i r2176 fun x2177 r2178 =>
                          un_b r2178 fun x2179 r2180 =>
                          un_b r2180 fun x2181 r2182 =>
                          un_i r2182 fun x2183 r2184 =>
                          un_b r2184 fun x2185 r2186 =>
                          un_i r2186 fun x2187 r2188 =>
                          un_i r2188 fun x2189 r2190 =>
                          un_i r2190 fun x2191 r2192 =>
                          un_nil r2192 <|
                          some [.i (x2165), .i (x2167), .i (x2169), .i (x2171), .i (x2173), .b (x2175), .i (x2177), .b (x2179), .b (x2181), .i (x2183), .b (x2185), .i (x2187), .i (x2189), .i (x2191)])
                         (some [.i (w_cwnd), .i (w_slow), .i (x603), .i (w_count), .i (w_halved_n), .b (w_halved_is), .i (w_last_n), .b (w_last_is), .b (false), .i (w_due), .b (w_rtt_any), .i (w_rtt_smooth), .i (w_rtt_spread), .i (w_rtt_rto)])))
                   (br (decide (x603 > 0))
                      (out (win_runsTo w_cwnd w_slow x603 w_count w_halved_n w_halved_is w_last_n w_last_is false w_due w_rtt_any w_rtt_smooth w_rtt_spread w_rtt_rto now) fun r2193 =>
                       un_i r2193 fun x2194 r2195 =>
                       un_i r2195 fun x2196 r2197 =>
                       un_i r2197 fun x2198 r2199 =>
                       un_i r2199 fun x2200 r2201 =>
                       un_i r2201 fun x2202 r2203 =>
                       un_b r2203 fun x2204 r2205 =>
                       un_i r2205 fun x2206 r2207 =>
                       un_b r2207 fun x2208 r2209 =>
                       un_b r2209 fun x2210 r2211 =>
                       un_i r2211 fun x2212 r2213 =>
                       un_b r2213 fun x2214 r2215 =>
                       un_i r2215 fun x2216 r2217 =>
                       un_i r2217 fun x2218 r2219 =>
                       un_i r2219 fun x2220 r2221 =>
                       un_nil r2221 <|
                       some [.i (x2194), .i (x2196), .i (x2198), .i (x2200), .i (x2202), .b (x2204), .i (x2206), .b (x2208), .b (x2210), .i (x2212), .b (x2214), .i (x2216), .i (x2218), .i (x2220)])
                      (some [.i (w_cwnd), .i (w_slow), .i (x603), .i (w_count), .i (w_halved_n), .b (w_halved_is), .i (w_last_n), .b (w_last_is), .b (false), .i (w_due), .b (w_rtt_any), .i (w_rtt_smooth), .i (w_rtt_spread), .i (w_rtt_rto)]))))
             (br (decide (x603 > 0))
                (out (win_runsTo w_cwnd w_slow x603 w_count w_halved_n w_halved_is w_last_n w_last_is false w_due w_rtt_any w_rtt_smooth w_rtt_spread w_rtt_rto now) fun r2222 =>
                 un_i r2222 fun x2223 r2224 =>
                 un_i r2224 fun x2225 r2226 =>
                 un_i r2226 fun x2227 r2228 =>
                 un_i r2228 fun x2229 r2230 =>
                 un_i r2230 fun x2231 r2232 =>
                 un_b r2232 fun x2233 r2234 =>
                 un_i r2234 fun x2235 r2236 =>
                 un_b r2236 fun x2237 r2238 =>
                 un_b r2238 fun x2239 r2240 =>
                 un_i r2240 fun x2241 r2242 =>
                 un_b r2242 fun x2243 r2244 =>
                 un_i r2244 fun x2245 r2246 =>
                 un_i r2246 fun x2247 r2248 =>
                 un_i r2248 fun x2249 r2250 =>
                 un_nil r2250 <|
                 some [.i (x2223), .i (x2225), .i (x2227), .i (x2229), .i (x2231), .b (x2233), .i (x2235), .b (x2237), .b (x2239), .i (x2241), .b (x2243), .i (x2245), .i (x2247), .i (x2249)])
                (some [.i (w_cwnd), .i (w_slow), .i (x603), .i (w_count), .i (w_halved_n), .b (w_halved_is), .i (w_last_n), .b (w_last_is), .b (false), .i (w_due), .b (w_rtt_any), .i (w_rtt_smooth), .i (w_rtt_spread), .i (w_rtt_rto)])))))
def win_Due (w_cwnd : Int) (w_slow : Int) (w_pipe : Int) (w_count : Int) (w_halved_n : Int) (w_halved_is : Bool) (w_last_n : Int) (w_last_is : Bool) (w_runs : Bool) (w_due : Int) (w_rtt_any : Bool) (w_rtt_smooth : Int) (w_rtt_spread : Int) (w_rtt_rto : Int) : Option (List Leaf) :=
  br (!w_runs)
    (some [.i (0), .b (false)])
    (some [.i (w_due), .b (true)])
def win_Cwnd (w_cwnd : Int) (w_slow : Int) (w_pipe : Int) (w_count : Int) (w_halved_n : Int) (w_halved_is : Bool) (w_last_n : Int) (w_last_is : Bool) (w_runs : Bool) (w_due : Int) (w_rtt_any : Bool) (w_rtt_smooth : Int) (w_rtt_spread : Int) (w_rtt_rto : Int) : Option (List Leaf) :=
  some [.i (w_cwnd)]
def win_Pipe (w_cwnd : Int) (w_slow : Int) (w_pipe : Int) (w_count : Int) (w_halved_n : Int) (w_halved_is : Bool) (w_last_n : Int) (w_last_is : Bool) (w_runs : Bool) (w_due : Int) (w_rtt_any : Bool) (w_rtt_smooth : Int) (w_rtt_spread : Int) (w_rtt_rto : Int) : Option (List Leaf) :=
  some [.i (w_pipe)]
end Go.Sx.T

