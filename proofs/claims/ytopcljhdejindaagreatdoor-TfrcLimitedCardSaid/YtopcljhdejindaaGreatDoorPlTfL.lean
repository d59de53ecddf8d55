import Derived.Test.YtopcljhdejindaaGreatDoorPlTf
import Derived.Test.YtopcljhdejindaaGreatDoorYTLSpec
set_option linter.all false
namespace Go.Sx.T
open Go Go.Sx
theorem ne_top {w : Int} (h0 : 0 ≤ w) (h : w ≤ 4503599627370496) : (w != 18446744073709551615) = true := by simp; omega
theorem limit_more {a w s x r db due now v p : Int} {bg st : Bool} (hw0 : 0 ≤ w) (hw1 : w ≤ 1125899906842624) (hv0 : 0 ≤ v) (hv1 : v ≤ 1125899906842624) (hp : 0 < p) :
    tfrc_limit [a] [w] s x 0 r true db bg st due now v p true = some [.li [clT now], .li [max (v * 17 / 20) (w / 2)], .i s, .i x, .i 0, .i r, .b true, .i db, .b bg, .b st, .i due, .i (max (v * 17 / 20) (w / 2))] := by
  have e1 : mulI .u64 v 17 = v * 17 := by rw [mulI_u]; omega
  have e2 : quoI .u64 (v * 17) 20 = v * 17 / 20 := quoI_u (by unfold U; omega) (by omega)
  have e3 : quoI .u64 w 2 = w / 2 := quoI_u (by unfold U; omega) (by omega)
  unfold tfrc_limit
  simp only [br_t, chk_tt, chk_TT]
  rw [br_pos hp, halve1, ne_top hw0 (by omega), br_t]
  simp only [out_ev, un_li_ev, un_nil_ev, e1, e2, e3, one_ev, chk_tt, chk_TT]
  rw [maximize1, ne_top (by omega) (by omega), br_t]
  simp only [out_ev, un_li_ev, un_i_ev, un_nil_ev, max1, maxI_eq, chk_tt, chk_TT]
  rw [show max 0 (max (v * 17 / 20) (w / 2)) = max (v * 17 / 20) (w / 2) by omega]
theorem hear_more {l0 l1 L0 L1 : List Int} {s x loss r db due now sample v p m : Int} {bg st lim : Bool} (hs : TS s x r db now) (hm1 : m ≤ 4503599627370496) (hp : 0 < p) (hp1 : p ≤ 4294967296)
    (hl : tfrc_limit l0 l1 s x loss (nxR r sample) true db bg st due now (min v 1125899906842624) p lim = some [.li L0, .li L1, .i s, .i x, .i loss, .i (nxR r sample), .b true, .i db, .b bg, .b st, .i due, .i m]) :
    tfrc_Hear l0 l1 s x loss r true db bg st due now sample v p lim =
      some [.li L0, .li L1, .i s, .i (max (min (RI s (nxR r sample) p) m) s), .i p, .i (nxR r sample), .b true, .i db, .b bg, .b true, .i (waitD now s (nxR r sample) (max (min (RI s (nxR r sample) p) m) s))] := by
  obtain ⟨s1, s2, x1, x2, r1, r2, d0, d1, n0, n1⟩ := hs
  obtain ⟨c, hc⟩ : ∃ c, c = min (max sample 1) 4294967296 := ⟨_, rfl⟩
  have hc1 : 1 ≤ c ∧ c ≤ 4294967296 := by omega
  have e1 : mulI .i64 9 r = 9 * r := mulI_i (by unfold I63; omega)
  have e2 : addI .i64 (9 * r) c = 9 * r + c := addI_i (by unfold I63; omega)
  have e3 : quoI .i64 (9 * r + c) 10 = nxR r sample := by unfold nxR; rw [← hc]; exact quoI_n (by omega) (by omega) (by omega)
  have hR : 1 ≤ nxR r sample ∧ nxR r sample ≤ 4294967296 := by unfold nxR; rw [← hc]; omega
  obtain ⟨R, hRe⟩ : ∃ R, R = nxR r sample := ⟨_, rfl⟩
  rw [← hRe] at hR hl e3 ⊢
  have en : min (max now 0) 4611686018427387904 = now := by omega
  have ep : min p 4294967296 = p := by omega
  have e4 : wrapI .u64 R = R := by rw [wrapI_u]; omega
  unfold tfrc_Hear
  simp only [one_ev, maxI_eq, minI_eq, en, ep, ← hc, e1, e2, e3, Bool.not_true, br_f, chk_tt, chk_TT]
  rw [hl]
  simp only [out_ev, un_li_ev, un_i_ev, un_b_ev, un_nil_ev]
  rw [br_pos (by omega)]
  simp only [e4, (eqn_Rate_t s R p).1, out_ev, un_i_ev, un_nil_ev]
  rw [waits_t s1 s2 hR.1 hR.2 (by omega) (by omega) n0 n1]
  simp only [out_ev, un_li_ev, un_i_ev, un_b_ev, un_nil_ev, chk_tt, chk_TT]
theorem TfrcLimited_true {size r x y p : Int} (hx : U x) (hy : U y) (hp : U p) : TfrcLimited size r x y p = some [.b true] := by
  obtain ⟨N, hN0, hN1, eN⟩ := rem_N (m := 1400) (by decide) (by decide) size
  obtain ⟨s, hs⟩ : ∃ s, s = 1 + N := ⟨_, rfl⟩
  have e1 : addI .i64 1 N = s := by rw [addI_i (show I63 (1 + N) by unfold I63; omega), hs]
  obtain ⟨R, hR⟩ : ∃ R, R = 1000 + max 0 (min r 1048576) := ⟨_, rfl⟩
  have e2 : addI .i64 1000 (max 0 (min r 1048576)) = R := by rw [addI_i (show I63 (1000 + max 0 (min r 1048576)) by unfold I63; omega), hR]
  obtain ⟨X, hX⟩ : ∃ X, X = 1 + x % 1099511627776 := ⟨_, rfl⟩
  have e3 : addI .u64 1 (remI .u64 x 1099511627776) = X := by rw [remI_u hx.1, addI_u, hX]; omega
  obtain ⟨Y, hY⟩ : ∃ Y, Y = y % 1099511627776 := ⟨_, rfl⟩
  have e4 : remI .u64 y 1099511627776 = Y := by rw [remI_u hy.1, hY]
  obtain ⟨Q, hQ⟩ : ∃ Q, Q = 1 + p % 2147483648 := ⟨_, rfl⟩
  have e5 : addI .u64 1 (remI .u64 p 2147483648) = Q := by rw [remI_u hp.1, addI_u, hQ]; omega
  have s1 : 1 ≤ s := by omega
  have s2 : s ≤ 1400 := by omega
  have R1 : 1000 ≤ R ∧ R ≤ 1049576 := by omega
  have X1 : 1 ≤ X ∧ X ≤ 1099511627776 := by omega
  have Y1 : 0 ≤ Y ∧ Y < 1099511627776 := by omega
  have Q1 : 1 ≤ Q ∧ Q ≤ 2147483648 := by omega
  have hb := bgI_b s1 s2 (show 1 ≤ R by omega) (show R ≤ 4294967296 by omega)
  have n3 : mulI .i64 3 R = 3 * R := mulI_i (by unfold I63; omega)
  have n3' : addI .i64 (3 * R) 1 = 3 * R + 1 := addI_i (by unfold I63; omega)
  have n6 : mulI .i64 6 R = 6 * R := mulI_i (by unfold I63; omega)
  have n6' : addI .i64 (6 * R) 2 = 6 * R + 2 := addI_i (by unfold I63; omega)
  have hnx : nxR R R = R := by unfold nxR; omega
  obtain ⟨A, hA⟩ : ∃ A, A = max (bgI s R) s := ⟨_, rfl⟩
  have h2 := hear_no (l0 := [0, 0]) (l1 := [18446744073709551615, 1]) (loss := 0) (due := waitD 0 s R A) (sample := R) (v := X) (bg := false) (st := true) (lim := true) (now := 3 * R + 1) (db := 0) (r := R) (x := A) (s := s) (m := 2 * max X 1)
    ⟨s1, s2, by omega, by omega, by omega, by omega, by omega, by omega, by omega, by omega⟩ (by omega) (by omega)
    (by rw [show min X 1125899906842624 = X by omega]; exact limit_two (by omega) (by omega) (by omega) (by omega) (by omega))
  rw [hnx] at h2
  obtain ⟨B, hB⟩ : ∃ B, B = nxX s A R 0 (3 * R + 1) (2 * max X 1) := ⟨_, rfl⟩
  rw [← hB, show (if 3 * R + 1 ≥ 0 + R then 3 * R + 1 else 0) = 3 * R + 1 from if_pos (by omega), show max X 1 = X by omega] at h2
  have hB1 : s ≤ B ∧ B ≤ 9007199254740992 := by
    rw [hB]; unfold nxX
    rw [if_pos (by omega)]
    have : satM 2 A = 2 * A := satM_eq (by unfold M64; omega)
    omega
  obtain ⟨M, hM⟩ : ∃ M, M = max (Y * 17 / 20) (X / 2) := ⟨_, rfl⟩
  have h3 := hear_more (l0 := [clT (3 * R + 1)]) (l1 := [X]) (loss := 0) (due := waitD (3 * R + 1) s R B) (sample := R) (v := Y) (p := Q) (bg := false) (st := true) (lim := true) (now := 6 * R + 2) (db := 3 * R + 1) (r := R) (x := B) (s := s) (m := M)
    ⟨s1, s2, hB1.1, hB1.2, by omega, by omega, by omega, by omega, by omega, by omega⟩ (by omega) (by omega) (by omega)
    (by rw [show min Y 1125899906842624 = Y by omega, hM]; exact limit_more (by omega) (by omega) (by omega) (by omega) (by omega))
  rw [hnx] at h3
  have q1 : quoI .u64 X 2 = X / 2 := quoI_u (by unfold U; omega) (by omega)
  have q2 : mulI .u64 Y 17 = Y * 17 := by rw [mulI_u]; omega
  have q3 : quoI .u64 (Y * 17) 20 = Y * 17 / 20 := quoI_u (by unfold U; omega) (by omega)
  have w1 : wrapI .u64 s = s := by rw [wrapI_u]; omega
  have w2 : wrapI .u64 R = R := by rw [wrapI_u]; omega
  unfold TfrcLimited
  simp only [one_ev, eN, e1, minI_eq, maxI_eq, e2, e3, e4, e5, new_t s1 s2, out_ev, un_li_ev, un_i_ev, un_b_ev, un_nil_ev, chk_tt, chk_TT]
  rw [hear_first s1 s2 (by omega) (by omega) (by omega), show min (1 : Int) 1125899906842624 = 1 by omega, ← hA]
  simp only [out_ev, un_li_ev, un_i_ev, un_b_ev, un_nil_ev, chk_tt, chk_TT, n3, n3']
  rw [h2]
  simp only [out_ev, un_li_ev, un_i_ev, un_b_ev, un_nil_ev, chk_tt, chk_TT, tfrc_Top, max1, maxI_eq]
  rw [show max 0 X = X by omega, show max X 1 = X by omega, bne_self_eq_false, br_f]
  simp only [n6, n6']
  rw [h3]
  simp only [out_ev, un_li_ev, un_i_ev, un_b_ev, un_nil_ev, chk_tt, chk_TT, max1, maxI_eq, q1, q2, q3, tfrc_Rate, tfrc_Loss, w1, w2, (eqn_Rate_t s R Q).2]
  rw [show max 0 (max (Y * 17 / 20) (X / 2)) = M by omega, show max (X / 2) (Y * 17 / 20) = M by omega, beq_self_eq_true, br_t, show max s (min M (RI s R Q)) = max (min (RI s R Q) M) s by omega, beq_self_eq_true, br_t, beq_self_eq_true]
end Go.Sx.T

