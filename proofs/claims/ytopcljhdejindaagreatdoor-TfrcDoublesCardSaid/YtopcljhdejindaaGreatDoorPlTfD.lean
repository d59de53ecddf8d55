import Derived.Test.YtopcljhdejindaaGreatDoorPlTf
import Derived.Test.YtopcljhdejindaaGreatDoorYTDSpec
set_option linter.all false
namespace Go.Sx.T
open Go Go.Sx
/-- What is kept: one rate, or the first two. -/
inductive SetOk : List Int → List Int → Int → Prop
  | one (a w : Int) : SetOk [a] [w] w
  | two (a b w : Int) : SetOk [a, b] [18446744073709551615, w] w
theorem limit_any {l0 l1 : List Int} {w s x r db due now v : Int} {bg st : Bool} (h : SetOk l0 l1 w) (hw0 : 0 ≤ w) (hw1 : w ≤ 1125899906842624) (hv0 : 0 ≤ v) (hv1 : v ≤ 1125899906842624) :
    tfrc_limit l0 l1 s x 0 r true db bg st due now v 0 true = some [.li [clT now], .li [max v w], .i s, .i x, .i 0, .i r, .b true, .i db, .b bg, .b st, .i due, .i (2 * max v w)] := by
  cases h with
  | one a => exact limit_one hw0 hw1 hv0 hv1 (by omega)
  | two a b => exact limit_two hw0 hw1 hv0 hv1 (by omega)
theorem dbl10 {xs : List Int} (hl : ∀ x ∈ xs, U x) {s R F : Int} (s1 : 1 ≤ s) (s2 : s ≤ 1400) (R1 : 1000 ≤ R) (R2 : R ≤ 16778216) (hF : F = max (bgI s R) s) :
    ∀ (k n : Nat) (l0 l1 : List Int) (w X due i now : Int) (bg st : Bool), k < n → i + k = min (xs.length : Int) 20 → 0 ≤ i → SetOk l0 l1 w → 0 ≤ w → w ≤ 1125899906842624 → s ≤ X → X ≤ 9007199254740992 → 0 ≤ now → now ≤ i * 16778217 →
      ∀ {α : Type} (kx : Nat → List Leaf → Option α) (kr : List Leaf → Option α), TfrcDoubles_10_L kx kr n xs l0 l1 s X 0 R true now bg st due i R s F now = kx 0 [.li xs] := by
  intro k
  induction k with
  | zero =>
    intro n l0 l1 w X due i now bg st hn hk hi hset hw0 hw1 hX0 hX1 hn0 hn1 α kx kr
    obtain ⟨n, rfl⟩ : ∃ n', n = n' + 1 := ⟨n - 1, by omega⟩
    simp only [TfrcDoubles_10_L, TfrcDoubles_10_B, one_ev]
    by_cases hl : i < Int.ofNat xs.length
    · rw [br_pos hl, br_neg (by simp at hl; omega)]
    · rw [br_neg hl]
  | succ k ih =>
    intro n l0 l1 w X due i now bg st hn hk hi hset hw0 hw1 hX0 hX1 hn0 hn1 α kx kr
    obtain ⟨n, rfl⟩ : ∃ n', n = n' + 1 := ⟨n - 1, by omega⟩
    have hlt : i < Int.ofNat xs.length := by simp; omega
    obtain ⟨v0, hv0⟩ : ∃ v0, v0 = xs.getD i.toNat 0 := ⟨_, rfl⟩
    have hvU : U v0 := by
      rw [hv0, List.getD_eq_getElem?_getD]
      cases h : xs[i.toNat]? with
      | none => simp [U]
      | some x => exact hl x (List.mem_of_getElem? h)
    unfold U at hvU
    obtain ⟨v, hv⟩ : ∃ v, v = min v0 1125899906842624 := ⟨_, rfl⟩
    obtain ⟨m, hm⟩ : ∃ m, m = max v w := ⟨_, rfl⟩
    have hb := bgI_b s1 s2 (show 1 ≤ R by omega) (show R ≤ 4294967296 by omega)
    have hnx : nxR R R = R := by unfold nxR; omega
    obtain ⟨now2, hnow2⟩ : ∃ now2, now2 = now + (R + 1) := ⟨_, rfl⟩
    have e1 : addI .i64 R 1 = R + 1 := addI_i (by unfold I63; omega)
    have e2 : addI .i64 now (R + 1) = now2 := by rw [addI_i (by unfold I63; omega), hnow2]
    have e3 : addI .i64 i 1 = i + 1 := addI_i (by unfold I63; omega)
    have e4 : wrapI .u64 s = s := by rw [wrapI_u]; omega
    have e5 : mulI .u64 2 X = 2 * X := by rw [mulI_u]; omega
    have h1 := hear_no (l0 := l0) (l1 := l1) (loss := 0) (due := due) (sample := R) (v := v0) (bg := bg) (st := st) (lim := true) (now := now2) (db := now) (r := R) (x := X) (s := s) (m := 2 * m)
      ⟨s1, s2, hX0, hX1, by omega, by omega, by omega, by omega, by omega, by omega⟩ (by omega) (by omega) (by rw [← hv, hm]; exact limit_any hset hw0 hw1 (by omega) (by omega))
    obtain ⟨X2, hX2⟩ : ∃ X2, X2 = nxX s X R now now2 (2 * m) := ⟨_, rfl⟩
    have hX2e : X2 = max (max (min (2 * X) (2 * m)) (bgI s R)) s := by
      rw [hX2]; unfold nxX
      rw [if_pos (by omega), satM_eq (by unfold M64; omega)]
    rw [hnx, ← hX2, if_pos (show now2 ≥ now + R by omega)] at h1
    have h2 := hear_no (l0 := [clT now2]) (l1 := [m]) (loss := 0) (due := waitD now2 s R X2) (sample := R) (v := v0) (bg := bg) (st := true) (lim := true) (now := now2) (db := now2) (r := R) (x := X2) (s := s) (m := 2 * max v m)
      ⟨s1, s2, by omega, by omega, by omega, by omega, by omega, by omega, by omega, by omega⟩ (by omega) (by omega) (by rw [← hv]; exact limit_one (by omega) (by omega) (by omega) (by omega) (by omega))
    have hX3 : nxX s X2 R now2 now2 (2 * max v m) = X2 := by unfold nxX; rw [if_neg (by omega)]; omega
    rw [hnx, hX3, if_neg (show ¬ now2 ≥ now2 + R by omega)] at h2
    have ih' := ih n [clT now2] [max v m] (max v m) X2 (waitD now2 s R X2) (i + 1) now2 bg true (by omega) (by omega) (by omega) (.one _ _) (by omega) (by omega) (by omega) (by omega) (by omega) (by omega) kx kr
    simp only [TfrcDoubles_10_L, TfrcDoubles_10_B, one_ev]
    rw [br_pos hlt, br_pos (by omega)]
    simp only [chk_tt, chk_TT, tfrc_Rate, out_ev, un_i_ev, un_nil_ev, e1, e2]
    rw [chk_pos ⟨hi, hlt⟩, chk_pos ⟨hi, hlt⟩, ← hv0, h1]
    simp only [out_ev, un_li_ev, un_i_ev, un_b_ev, un_nil_ev, chk_tt, chk_TT, tfrc_Rtt, e4, e5, maxI_eq, ← hm]
    rw [br_neg (by omega), br_neg (by omega), br_neg (by omega), chk_pos ⟨hi, hlt⟩, chk_pos ⟨hi, hlt⟩, h2]
    simp only [out_ev, un_li_ev, un_i_ev, un_b_ev, un_nil_ev, chk_tt, chk_TT, e3, chk_len, chk_T]
    rw [bne_self_eq_false, br_f]
    exact ih'
theorem TfrcDoubles_true {xs : List Int} {size r : Int} (hl : ∀ x ∈ xs, U x) : TfrcDoubles xs size r = some [.b true] := by
  obtain ⟨N, hN0, hN1, eN⟩ := rem_N (m := 1400) (by decide) (by decide) size
  obtain ⟨s, hs⟩ : ∃ s, s = 1 + N := ⟨_, rfl⟩
  have e1 : addI .i64 1 N = s := by rw [addI_i (show I63 (1 + N) by unfold I63; omega), hs]
  obtain ⟨R, hR⟩ : ∃ R, R = 1000 + max 0 (min r 16777216) := ⟨_, rfl⟩
  have e2 : addI .i64 1000 (max 0 (min r 16777216)) = R := by rw [addI_i (show I63 (1000 + max 0 (min r 16777216)) by unfold I63; omega), hR]
  have s1 : 1 ≤ s := by omega
  have s2 : s ≤ 1400 := by omega
  have hb := bgI_b s1 s2 (show 1 ≤ R by omega) (show R ≤ 4294967296 by omega)
  unfold TfrcDoubles TfrcDoubles_d
  simp only [one_ev, eN, e1, minI_eq, maxI_eq, e2, new_t s1 s2, out_ev, un_li_ev, un_i_ev, un_b_ev, un_nil_ev, chk_tt, chk_TT]
  rw [hear_first s1 s2 (by omega) (by omega) (by omega), show min (1099511627776 : Int) 1125899906842624 = 1099511627776 by omega]
  simp only [out_ev, un_li_ev, un_i_ev, un_b_ev, un_nil_ev, chk_tt, chk_TT, tfrc_Rate, chk_len, chk_T]
  rw [dbl10 hl s1 s2 (show 1000 ≤ R by omega) (by omega) rfl (min (xs.length : Int) 20).toNat top [0, 0] _ 1099511627776 (max (bgI s R) s) _ 0 0 false true (by unfold top; omega) (by omega) (by omega) (.two _ _ _) (by omega) (by omega) (by omega) (by omega) (by omega) (by omega)]
  simp only [beq00, br_t, un_li_ev, un_nil_ev]
end Go.Sx.T

