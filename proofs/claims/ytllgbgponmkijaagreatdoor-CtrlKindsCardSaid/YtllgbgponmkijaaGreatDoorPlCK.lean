import Derived.Test.YtllgbgponmkijaaGreatDoorYCKSpec
import Derived.Test.YtllgbgponmkijaaGreatDoorPlA
set_option linter.all false
namespace Go.Sx.T
open Go Go.Sx
theorem CtrlKinds_true (kind size : Int) : CtrlKinds kind size = some [.b true] := by
  unfold CtrlKinds
  by_cases h1 : size < 1
  · rw [br_pos h1, br_neg (by omega)]
  rw [br_neg h1]
  by_cases h2 : size > 1400
  · rw [br_pos h2, br_pos (by omega), br_neg (by omega)]
  rw [br_neg h2]
  have e1 : wrapI .u64 size = size := by rw [wrapI_u]; omega
  have e2 : mulI .u64 64 size = 64 * size := by rw [mulI_u]; omega
  simp only [one_ev, e1, e2]
  have d1 : decide (size ≥ 1) = true := decide_eq_true (by omega)
  have d2 : decide (size ≤ 1400) = true := decide_eq_true (by omega)
  simp only [d1, d2, br_t]
  by_cases k2 : kind = 2
  · subst k2
    simp [br_t, br_f]
  have b2 : (kind == 2) = false := beq_eq_false_iff_ne.2 k2
  simp only [b2, br_f]
  by_cases k3 : kind = 3
  · subst k3
    simp [br_t, br_f]
  have b3 : (kind == 3) = false := beq_eq_false_iff_ne.2 k3
  simp [b3, br_t, br_f]
end Go.Sx.T

