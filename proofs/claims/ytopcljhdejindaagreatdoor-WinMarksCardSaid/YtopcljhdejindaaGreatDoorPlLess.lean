import Derived.Test.YtopcljhdejindaaGreatDoorPlA
import Derived.Test.YtopcljhdejindaaGreatDoorYLowSpec
set_option linter.all false
namespace Go.Sx.T
open Go Go.Sx
theorem diff_ge {a b : Int} (hb : 0 ≤ b) (h : b ≤ a) (ha : a < 140737488355328) : seq_Diff a b = some [.i (a - b)] := by
  have e1 : subI .u64 a b = a - b := by rw [subI_u]; omega
  have e2 : andI .u64 (a - b) 281474976710655 = a - b := by rw [andI_mask (by unfold U; omega) 48 (by decide) _ (by decide)]; omega
  unfold seq_Diff seq_Of
  simp only [one_ev, e1, e2, out_ev, un_i_ev, un_nil_ev]
  rw [br_neg (by omega), wrapI_i (by unfold I63; omega)]
theorem diff_lt {a b : Int} (ha : 0 ≤ a) (h : a < b) (hb : b < 140737488355328) : seq_Diff a b = some [.i (a - b)] := by
  have e1 : subI .u64 a b = a - b + 18446744073709551616 := by rw [subI_u]; omega
  have e2 : andI .u64 (a - b + 18446744073709551616) 281474976710655 = a - b + 281474976710656 := by rw [andI_mask (by unfold U; omega) 48 (by decide) _ (by decide)]; omega
  unfold seq_Diff seq_Of
  simp only [one_ev, e1, e2, out_ev, un_i_ev, un_nil_ev]
  rw [br_pos (by omega), wrapI_i (by unfold I63; omega), subI_i (by unfold I63; omega)]
  congr 2
  simp
theorem less_ge {a b : Int} (hb : 0 ≤ b) (h : b ≤ a) (ha : a < 140737488355328) : seq_Less a b = some [.b false] := by
  unfold seq_Less
  simp only [diff_ge hb h ha, out_ev, un_i_ev, un_nil_ev]
  rw [decide_eq_false (by omega)]
theorem less_lt {a b : Int} (ha : 0 ≤ a) (h : a < b) (hb : b < 140737488355328) : seq_Less a b = some [.b true] := by
  unfold seq_Less
  simp only [diff_lt ha h hb, out_ev, un_i_ev, un_nil_ev]
  rw [decide_eq_true (by omega)]
end Go.Sx.T

