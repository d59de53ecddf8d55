import Derived.Test.YtngjglbakgdgaaaGreatDoorPlCt
import Derived.Test.YtngjglbakgdgaaaGreatDoorYCHSpec
set_option linter.all false
namespace Go.Sx.T
open Go Go.Sx
theorem CtrlHear_true {size r x p : Int} (hx : U x) (hp : U p) : CtrlHear size r x p = some [.b true] := by
  obtain ⟨N, hN0, hN1, eN⟩ := rem_N (m := 1400) (by decide) (by decide) size
  obtain ⟨s, hs⟩ : ∃ s, s = 1 + N := ⟨_, rfl⟩
  have e1 : addI .i64 1 N = s := by rw [addI_i (show I63 (1 + N) by unfold I63; omega), hs]
  have s1 : 1 ≤ s := by omega
  have s2 : s ≤ 1400 := by omega
  obtain ⟨R, hR⟩ : ∃ R, R = 1 + max 0 (min r 1073741824) := ⟨_, rfl⟩
  have e2 : addI .i64 1 (max 0 (min r 1073741824)) = R := by rw [addI_i (by unfold I63; omega), hR]
  have r1 : 1 ≤ R := by omega
  have r2 : R ≤ 4294967296 := by omega
  have p0 := PS.new (s := 1400) (k := 10000) (by omega) (by omega) (by omega) (by omega)
  have xU : U (64 * s) := by unfold U; omega
  obtain ⟨a, b, c, q1, q2⟩ := crHear_no (l0 := [0]) (l1 := [18446744073709551615]) (g := []) (la := [4]) (lo := []) (last := 0) (s := s) (loss := 0) (rtt := 0) (db := 0) (due := 0) (h := false) (bg := false) (st := false) (now := 5) (mk := 0) (sm := -1) (v := x) (q := p) p0 (by omega) (by omega) xU (by omega)
  obtain ⟨X, hX0, hX1, _, hX2⟩ := hear1 (s := s) (x := 64 * s) (due := 0) (v := x) (p := p) (r := R) (now := 5) (bg := false) (st := false) s1 s2 hx hp r1 r2 (by omega) (by omega)
  obtain ⟨a', b', c', t1, t2⟩ := crHear_yes (g := [5]) (la := []) (lo := []) (last := 64 * s) (mk := 0) q1 (by omega) (by omega) xU (by omega) hX2 (by unfold U; omega)
  unfold CtrlHear
  simp only [one_ev, eN, e1, minI_eq, maxI_eq, e2, new_t s1 s2, new_pace (s := 1400) (k := 10000) (by omega) (by omega) (by omega) (by omega), out_ev, un_li_ev, un_i_ev, un_b_ev, un_nil_ev]
  rw [q2]
  unfold tfrc_Rate tfrc_Rtt tfrc_Loss
  simp only [one_ev, out_ev, un_li_ev, un_i_ev, un_b_ev, un_nil_ev, decide_true, Bool.and_true, chk_t, Bool.true_and]
  rw [t2]
  simp only [one_ev, out_ev, un_li_ev, un_i_ev, un_b_ev, un_nil_ev, decide_true, Bool.and_true, chk_t, Bool.true_and]
  simp
  rfl
end Go.Sx.T

