import Derived.Test.YtdjnfdcoilgegaaGreatDoorYFixSpec
import Derived.Test.YtdjnfdcoilgegaaGreatDoorPlDv
set_option linter.all false
namespace Go.Sx.T
open Go Go.Sx
def M64 : Int := 18446744073709551615
def satM (a b : Int) : Int := min (a * b) M64
def satA (a b : Int) : Int := min (a + b) M64
theorem satM_U {a b : Int} (ha : 0 ≤ a) (hb : 0 ≤ b) : U (satM a b) := by
  have := Int.mul_nonneg ha hb
  unfold satM M64 U; omega
theorem satA_U {a b : Int} (ha : 0 ≤ a) (hb : 0 ≤ b) : U (satA a b) := by
  unfold satA M64 U; omega
theorem fix_Mul_s {a b : Int} (ha : U a) (hb : U b) : fix_Mul a b = some [.i (satM a b)] := by
  unfold fix_Mul satM M64
  simp only [bits_Mul64_t ha hb, out_ev, one_ev, un_i_ev, un_nil_ev]
  have h0 := Int.mul_nonneg ha.1 hb.1
  by_cases h : a * b / 18446744073709551616 > 0
  · rw [br_pos h, Int.min_eq_right (by omega)]
  · rw [br_neg h, show a * b % 18446744073709551616 = a * b by omega, Int.min_eq_left (by omega)]
theorem fix_Add_s {a b : Int} (ha : 0 ≤ a) (hb : 0 ≤ b) : fix_Add a b = some [.i (satA a b)] := by
  unfold fix_Add addLo addHi satA M64
  rw [chk_pos ⟨ha, hb⟩]
  simp only [one_ev]
  by_cases h : (a + b + 0) / 18446744073709551616 > 0
  · rw [br_pos h, Int.min_eq_right (by omega)]
  · rw [br_neg h, show (a + b + 0) % 18446744073709551616 = a + b by omega, Int.min_eq_left (by omega)]
theorem satA_eq {a b : Int} (h : a + b ≤ M64) : satA a b = a + b := by unfold satA; omega
theorem satM_eq {a b : Int} (h : a * b ≤ M64) : satM a b = a * b := by unfold satM; omega
theorem satM_eq' {a b : Int} (h : a * b ≤ M64) : satM a b = a * b := satM_eq h
end Go.Sx.T

