import Derived.Test.YtopcljhdejindaaGreatDoorPlIv
set_option linter.all false
namespace Go.Sx.T
open Go Go.Sx
theorem ival_Mean_t {l : List Int} {o : Int} (hl : ∀ x ∈ l, U x) (ho : U o) : ival_Mean l o = some [.i (mean8 l o)] := by
  have hU := sAB_U hl ho
  have hw := sW_b l o
  unfold ival_Mean
  simp only [chk_len, chk_T, ival_sums_t hl ho, out_ev, un_i_ev, un_nil_ev, one_ev]
  unfold mean8
  by_cases h : sW l o = 0
  · rw [br_eq h, if_pos h]
  · rw [br_ne h, if_neg h, chk_pos h, quoI_u (by have := hU.1; have := hU.2; unfold U at *; omega) (by omega)]
end Go.Sx.T

