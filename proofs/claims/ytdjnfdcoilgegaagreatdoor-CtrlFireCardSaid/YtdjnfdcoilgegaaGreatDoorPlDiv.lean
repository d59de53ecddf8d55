import Derived.Test.YtdjnfdcoilgegaaGreatDoorPlFix
set_option linter.all false
namespace Go.Sx.T
open Go Go.Sx
/-- The whole part of a times b by c, or the greatest number. -/
def mdI (a b c : Int) : Int := if c = 0 then 18446744073709551615 else min (a * b / c) 18446744073709551615
theorem mdI_U (a b c : Int) (ha : 0 ≤ a) (hb : 0 ≤ b) (hc : 0 ≤ c) : U (mdI a b c) := by
  unfold mdI U
  split
  · omega
  · have := Int.ediv_nonneg (Int.mul_nonneg ha hb) hc
    omega
theorem md_top {p c : Int} (hp : 0 ≤ p) (hc : 0 < c) : p / 18446744073709551616 ≥ c ↔ 18446744073709551615 < p / c := by
  rw [show (18446744073709551615 < p / c) ↔ 18446744073709551616 ≤ p / c by omega, Int.le_ediv_iff_mul_le hc, ge_iff_le, Int.le_ediv_iff_mul_le (by decide), Int.mul_comm]
end Go.Sx.T

