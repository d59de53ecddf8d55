import Derived.Test.YtllgbgponmkijaaGreatDoorPlRP
import Derived.Test.YtllgbgponmkijaaGreatDoorYPFSpec
set_option linter.all false
namespace Go.Sx.T
open Go Go.Sx
theorem PaceFall_true {s x y at_ : Int} (hx : U x) (hy : U y) : PaceFall s x y at_ = some [.b true] := by
  obtain ⟨N, hN0, hN1, eN⟩ := rem_N (m := 1400) (by decide) (by decide) s
  obtain ⟨S, hS⟩ : ∃ S, S = 1 + N := ⟨_, rfl⟩
  have e1 : addI .i64 1 N = S := by rw [addI_i (show I63 (1 + N) by unfold I63; omega), hS]
  obtain ⟨X, hX⟩ : ∃ X, X = x % 1099511627776 := ⟨_, rfl⟩
  have e2 : remI .u64 x 1099511627776 = X := by rw [remI_u hx.1, hX]
  obtain ⟨Y, hY⟩ : ∃ Y, Y = y % 1099511627776 := ⟨_, rfl⟩
  have e3 : remI .u64 y 1099511627776 = Y := by rw [remI_u hy.1, hY]
  obtain ⟨A, hA⟩ : ∃ A, A = max 0 (min at_ 1048576) := ⟨_, rfl⟩
  have s1 : 1 ≤ S := by omega
  have s2 : S ≤ 1400 := by omega
  have XU : U X := by unfold U; omega
  have YU : U Y := by unfold U; omega
  have e4 : wrapI .u64 S = S := by rw [wrapI_u]; omega
  have e5 : mulI .u64 64000000 S = 64000000 * S := by rw [mulI_u]; omega
  have p0 := PS.new s1 s2 (show (0 : Int) ≤ 1000 by omega) (by omega)
  have p1 := p0.rate (at_ := 0) (x := X) (by omega) (by omega) XU
  obtain ⟨h1, hh1⟩ : ∃ h1, h1 = min (getH S 1000 0 0 0 0) (capI S 1000 X) := ⟨_, rfl⟩
  rw [← hh1, show max (0 : Int) 0 = 0 by omega] at p1
  have p2 := p1.rate (at_ := A) (x := Y) (by omega) (by omega) YU
  obtain ⟨h2, hh2⟩ : ∃ h2, h2 = min (getH S 1000 h1 X 0 A) (capI S 1000 Y) := ⟨_, rfl⟩
  rw [← hh2, show max (0 : Int) A = A by omega] at p2
  have hc := capI_U s1 s2 (show (0 : Int) ≤ 1000 by omega) YU
  have q0 := p2.h0; have q1 := p2.h1
  have hU : U h2 := by unfold U at *; omega
  obtain ⟨n, hn⟩ : ∃ n, n = min (h2 / 64000000) 65535 := ⟨_, rfl⟩
  have e6 : quoI .u64 h2 64000000 = h2 / 64000000 := quoI_u hU (by omega)
  have e7 : wrapI .i64 n = n := wrapI_i (by unfold I63; omega)
  have e8 : addI .i64 n 1 = n + 1 := addI_i (by unfold I63; omega)
  have g2 : getH S 1000 h2 Y A A = h2 := if_pos (Int.le_refl _)
  unfold PaceFall
  simp only [one_ev, eN, e1, e2, e3, e4, e5, minI_eq, maxI_eq, ← hA, new_pace s1 s2 (show (0 : Int) ≤ 1000 by omega) (show (1000 : Int) ≤ 1000000 by omega), out_ev, un_i_ev, un_nil_ev]
  rw [rate_t p0 (by omega) (by omega) XU, show max (0 : Int) 0 = 0 by omega, ← hh1]
  simp only [out_ev, un_i_ev, un_nil_ev]
  rw [rrate_t p0 (by omega) (by omega) XU, show max (0 : Int) 0 = 0 by omega, ← hh1]
  simp only [out_ev, un_i_ev, un_nil_ev]
  rw [rate_t p1 (by omega) (by omega) YU, show max (0 : Int) A = A by omega, ← hh2]
  simp only [out_ev, un_i_ev, un_nil_ev]
  rw [rrate_t p1 (by omega) (by omega) YU, show max (0 : Int) A = A by omega, ← hh2]
  simp only [out_ev, un_i_ev, un_nil_ev, e6, ← hn, e7, cap_t s1 s2 (show (0 : Int) ≤ 1000 by omega) (show (1000 : Int) ≤ 1000000 by omega) YU, ref_Mul_s YU (show U 1000 by unfold U; omega)]
  rw [show max (64000000 * S) (satM Y 1000) = capI S 1000 Y from rfl, beq_self_eq_true, br_t, may_t p2 (by omega) (by omega), g2]
  simp only [out_ev, un_i_ev, un_b_ev, un_nil_ev]
  rw [show mayB h2 n = true from decide_eq_true (by omega), br_t]
  by_cases hm : n = 65535
  · rw [br_eq hm]
  · rw [br_ne hm, e8, show max A A = A by omega, may_t p2 (by omega) (by omega), g2]
    simp only [out_ev, un_i_ev, un_b_ev, un_nil_ev]
    rw [show mayB h2 (n + 1) = false from decide_eq_false (by omega)]
    rfl
end Go.Sx.T

