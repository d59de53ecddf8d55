import Derived.Test.YtngjglbakgdgaaaGreatDoorYFixSpec
import Derived.Test.YtngjglbakgdgaaaGreatDoorPlA
set_option linter.all false
namespace Go.Sx.T
open Go Go.Sx
theorem shr32 {x : Int} : shrI .u64 x 32 = x / 4294967296 := by
  have := shrI_u .u64 rfl x 32 (by decide)
  simpa using this
theorem and32 {x : Int} (h : U x) : andI .u64 x 4294967295 = x % 4294967296 := by
  have := andI_mask h 32 (by decide) 4294967295 (by decide)
  simpa using this
theorem U_mod (x : Int) : U (x % 18446744073709551616) := by unfold U; omega
theorem bits_Mul64_t {x y : Int} (hx : U x) (hy : U y) : bits_Mul64 x y = some [.i (x * y / 18446744073709551616), .i (x * y % 18446744073709551616)] := by
  unfold bits_Mul64
  simp only [one_ev, and32 hx, and32 hy, shr32, mulI_u, addI_u, and32 (U_mod _)]
  have := mul64_arith x y hx.1 hx.2 hy.1 hy.2
  rw [this]
def M64 : Int := 18446744073709551615
def satM (a b : Int) : Int := min (a * b) M64
def satA (a b : Int) : Int := min (a + b) M64
theorem satM_U {a b : Int} (ha : 0 ≤ a) (hb : 0 ≤ b) : U (satM a b) := by
  have := Int.mul_nonneg ha hb
  unfold satM M64 U; omega
theorem satA_U {a b : Int} (ha : 0 ≤ a) (hb : 0 ≤ b) : U (satA a b) := by
  unfold satA M64 U; omega
theorem fix_Mul_s {a b : Int} (ha : U a) (hb : U b) : fix_Mul a b = some [.i (satM a b)] := by
  unfold fix_Mul satM M64
  simp only [bits_Mul64_t ha hb, out_ev, un_i_ev, un_nil_ev, one_ev]
  have h0 := Int.mul_nonneg ha.1 hb.1
  by_cases h : a * b / 18446744073709551616 > 0
  · rw [br_pos h, Int.min_eq_right (by omega)]
  · rw [br_neg h, show a * b % 18446744073709551616 = a * b by omega, Int.min_eq_left (by omega)]
theorem fix_Add_s {a b : Int} (ha : 0 ≤ a) (hb : 0 ≤ b) : fix_Add a b = some [.i (satA a b)] := by
  unfold fix_Add addLo addHi satA M64
  rw [chk_pos ⟨ha, hb⟩]
  simp only [one_ev]
  by_cases h : (a + b + 0) / 18446744073709551616 > 0
  · rw [br_pos h, Int.min_eq_right (by omega)]
  · rw [br_neg h, show (a + b + 0) % 18446744073709551616 = a + b by omega, Int.min_eq_left (by omega)]
theorem satM_eq' {a b : Int} (h : a * b ≤ M64) : satM a b = a * b := by unfold satM; omega
def subS (a b : Int) : Int := max (a - b) 0
end Go.Sx.T

