import Derived.Test.YtfcaemjklnelhaaGreatDoorPlA
import GoSem.Claim
set_option linter.all false
namespace Go.Sx
open Go
theorem wfU {n : Int} (h : (Lit.int .u64 n).wf = true) : U n := by
  simp only [Lit.wf, Bool.and_eq_true, decide_eq_true_eq] at h
  have e1 : IntKind.min .u64 = 0 := by decide
  have e2 : IntKind.max .u64 = 18446744073709551615 := by decide
  rw [e1, e2] at h
  unfold U; omega
theorem wfI {n : Int} (h : (Lit.int .i64 n).wf = true) : I63 n := by
  simp only [Lit.wf, Bool.and_eq_true, decide_eq_true_eq] at h
  have e1 : IntKind.min .i64 = -9223372036854775808 := by decide
  have e2 : IntKind.max .i64 = 9223372036854775807 := by decide
  rw [e1, e2] at h
  unfold I63; omega
end Go.Sx

