import Derived.Test.YtdjnfdcoilgegaaGreatDoorPlSt
import Derived.Test.YtdjnfdcoilgegaaGreatDoorYfTfrcSpec
set_option linter.all false
namespace Go.Sx.T
open Go Go.Sx
theorem chk_tt (n : Int) {α : Type} (x : Option α) : chk (decide (n = n) && true && true) x = x := by
  rw [decide_eq_true rfl]; exact chk_t x
theorem chk_TT {α : Type} (x : Option α) : chk (decide True && true && true) x = x := by
  rw [decide_eq_true trivial]; exact chk_t x
theorem new_t {s : Int} (s1 : 1 ≤ s) (s2 : s ≤ 1400) : tfrc_New s = some [.li [0], .li [18446744073709551615], .i s, .i (64 * s), .i 0, .i 0, .b false, .i 0, .b false, .b false, .i 0] := by
  have e1 : wrapI .u64 s = s := by rw [wrapI_u]; omega
  have e2 : mulI .u64 64 s = 64 * s := by rw [mulI_u]; omega
  unfold tfrc_New
  rw [br_neg (by omega), br_neg (by omega)]
  simp only [one_ev, e1, e2, show rset_New = some [.li [0], .li [18446744073709551615]] by kernel_rfl, out_ev, un_li_ev, un_nil_ev, chk_tt, chk_TT]
end Go.Sx.T

