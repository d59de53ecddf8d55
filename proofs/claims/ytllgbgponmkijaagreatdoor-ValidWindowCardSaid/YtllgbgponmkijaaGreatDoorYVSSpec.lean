import Derived.Test.YtllgbgponmkijaaGreatDoorYValSpec
set_option linter.all false
namespace Go.Sx.T
open Go Go.Sx
def ref_HasAck (t : Int) : Option (List Leaf) :=
  br (t == 1)
    (some [.b (true)])
    (br (decide (t ≥ 3))
       (some [.b (decide (t ≤ 9))])
       (some [.b (false)]))
def ValidStates_10_B  {α : Type} (kx : Nat → List Leaf → Option α) (kr : List Leaf → Option α) (again : Int → Int → Int → Int → Int → Int → Int → Int → Int → ByteArray → Int → Option α) (v_State : Int) (v_Gss : Int) (v_Gsr : Int) (v_Gar : Int) (v_Iss : Int) (v_Isr : Int) (v_Mine : Int) (v_Theirs : Int) (t : Int) (good : ByteArray) (state : Int) : Option α :=
  br (decide (t ≤ 9))
    (out (ref_Step v_Gsr 1) fun r1701 =>
     un_i r1701 fun x1702 r1703 =>
     un_nil r1703 <|
     out (ref_HasAck t) fun r1704 =>
     un_b r1704 fun x1705 r1706 =>
     un_nil r1706 <|
     br (x1705)
       (out (valid_Check v_State v_Gss v_Gsr v_Gar v_Iss v_Isr v_Mine v_Theirs 0 0 0 0 0 0 t true x1702 v_Gss 0 0 0 0 0 ByteArray.empty) fun r1707 =>
        un_i r1707 fun x1708 r1709 =>
        un_nil r1709 <|
        br (x1708 == 1)
          (one (addI .i64 48 t) fun x1710 =>
           one (wrapI .u8 x1710) fun x1711 =>
           chk (Nat.ble (ByteArray.size good + ByteArray.size (strOfI (partL Option.none (↑(1 : Nat) : Int) [x1711]))) (9223372036854775807 : Nat)) <|
           one (addI .i64 t 1) fun x1712 =>
           again (v_State) (v_Gss) (v_Gsr) (v_Gar) (v_Iss) (v_Isr) (v_Mine) (v_Theirs) (x1712) (good ++ strOfI (partL Option.none (↑(1 : Nat) : Int) [x1711])) (state))
          (one (addI .i64 t 1) fun x1713 =>
           again (v_State) (v_Gss) (v_Gsr) (v_Gar) (v_Iss) (v_Isr) (v_Mine) (v_Theirs) (x1713) (good) (state)))
       (out (valid_Check v_State v_Gss v_Gsr v_Gar v_Iss v_Isr v_Mine v_Theirs 0 0 0 0 0 0 t true x1702 0 0 0 0 0 0 ByteArray.empty) fun r1714 =>
        un_i r1714 fun x1715 r1716 =>
        un_nil r1716 <|
        br (x1715 == 1)
          (one (addI .i64 48 t) fun x1717 =>
           one (wrapI .u8 x1717) fun x1718 =>
           chk (Nat.ble (ByteArray.size good + ByteArray.size (strOfI (partL Option.none (↑(1 : Nat) : Int) [x1718]))) (9223372036854775807 : Nat)) <|
           one (addI .i64 t 1) fun x1719 =>
           again (v_State) (v_Gss) (v_Gsr) (v_Gar) (v_Iss) (v_Isr) (v_Mine) (v_Theirs) (x1719) (good ++ strOfI (partL Option.none (↑(1 : Nat) : Int) [x1718])) (state))
          (one (addI .i64 t 1) fun x1720 =>
           again (v_State) (v_Gss) (v_Gsr) (v_Gar) (v_Iss) (v_Isr) (v_Mine) (v_Theirs) (x1720) (good) (state))))
    (kx 0 [.i (state), .s (good)])
def ValidStates_10_L {α : Type} (kx : Nat → List Leaf → Option α) (kr : List Leaf → Option α) : Nat → Int → Int → Int → Int → Int → Int → Int → Int → Int → ByteArray → Int → Option α
  | 0, _, _, _, _, _, _, _, _, _, _, _ => none
  | n + 1, v_State, v_Gss, v_Gsr, v_Gar, v_Iss, v_Isr, v_Mine, v_Theirs, t, good, state => ValidStates_10_B  kx kr (ValidStates_10_L kx kr n) v_State v_Gss v_Gsr v_Gar v_Iss v_Isr v_Mine v_Theirs t good state
def ValidStates_10_F (L10 : ({β : Type} → (Nat → List Leaf → Option β) → (List Leaf → Option β) → Nat → Int → Int → Int → Int → Int → Int → Int → Int → Int → ByteArray → Int → Option β)) {α : Type} (n : Nat) (ls : List Leaf) (kx : Nat → List Leaf → Option α) (kr : List Leaf → Option α) : Option α := un_i ls fun v_State rr => un_i rr fun v_Gss rr => un_i rr fun v_Gsr rr => un_i rr fun v_Gar rr => un_i rr fun v_Iss rr => un_i rr fun v_Isr rr => un_i rr fun v_Mine rr => un_i rr fun v_Theirs rr => un_i rr fun t rr => un_s rr fun good rr => un_i rr fun state rr => un_nil rr (L10 kx kr n v_State v_Gss v_Gsr v_Gar v_Iss v_Isr v_Mine v_Theirs t good state)
def ValidStates_d (L10 : ({β : Type} → (Nat → List Leaf → Option β) → (List Leaf → Option β) → Nat → Int → Int → Int → Int → Int → Int → Int → Int → Int → ByteArray → Int → Option β)) (v_State : Int) (v_Gss : Int) (v_Gsr : Int) (v_Gar : Int) (v_Iss : Int) (v_Isr : Int) (v_Mine : Int) (v_Theirs : Int) (state : Int) : Option (List Leaf) :=
  one (remI .i64 state 9) fun x1721 =>
  one (addI .i64 x1721 9) fun x1722 =>
  one (remI .i64 x1722 9) fun x1723 =>
  out (ref_Seq v_Gsr) fun r1724 =>
  un_i r1724 fun x1725 r1726 =>
  un_nil r1726 <|
  out (ref_Seq v_Gss) fun r1727 =>
  un_i r1727 fun x1728 r1729 =>
  un_nil r1729 <|
  L10
    (fun i1730 r1731 =>
     br (Nat.beq 0 i1730)
       (un_i r1731 fun x1732 r1733 =>
        un_s r1733 fun x1734 r1735 =>
        un_nil r1735 <|
        chk (decide (0 ≤ x1732 ∧ x1732 < (↑9 : Int))) <|
        chk (decide (0 ≤ x1732 ∧ x1732 < (↑9 : Int))) <|
        some [.b (x1734 == List.getD [{ data := #[] }, { data := #[48] }, { data := #[49, 55] }, { data := #[48, 50, 51, 52, 53, 54, 55, 56, 57] }, { data := #[50, 51, 52, 53, 54, 55, 56, 57] }, { data := #[50, 51, 52, 53, 54, 55, 56, 57] }, { data := #[50, 51, 52, 53, 54, 55, 56, 57] }, { data := #[50, 51, 52, 53, 54, 55, 56, 57] }, { data := #[] }] (Int.toNat x1732) ByteArray.empty)])
       (none))
    (fun r1736 =>
     un_nil r1736 <|
     none)
    top (x1723) (x1728) (x1725) (x1728) (x1728) (x1725) (v_Mine) (v_Theirs) (0) ({ data := #[] }) (x1723)
def ValidStates (v_State : Int) (v_Gss : Int) (v_Gsr : Int) (v_Gar : Int) (v_Iss : Int) (v_Isr : Int) (v_Mine : Int) (v_Theirs : Int) (state : Int) : Option (List Leaf) := ValidStates_d @ValidStates_10_L v_State v_Gss v_Gsr v_Gar v_Iss v_Isr v_Mine v_Theirs state
end Go.Sx.T

