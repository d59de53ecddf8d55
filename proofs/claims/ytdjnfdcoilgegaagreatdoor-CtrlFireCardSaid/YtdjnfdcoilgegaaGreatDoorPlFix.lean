import Derived.Test.YtdjnfdcoilgegaaGreatDoorYFixSpec
import Derived.Test.YtdjnfdcoilgegaaGreatDoorPlA
set_option linter.all false
namespace Go.Sx.T
open Go Go.Sx
theorem shr32 {x : Int} : shrI .u64 x 32 = x / 4294967296 := by
  have := shrI_u .u64 rfl x 32 (by decide)
  simpa using this
theorem and32 {x : Int} (h : U x) : andI .u64 x 4294967295 = x % 4294967296 := by
  have := andI_mask h 32 (by decide) 4294967295 (by decide)
  simpa using this
theorem U_mod (x : Int) : U (x % 18446744073709551616) := by unfold U; omega
theorem bits_Mul64_t {x y : Int} (hx : U x) (hy : U y) : bits_Mul64 x y = some [.i (x * y / 18446744073709551616), .i (x * y % 18446744073709551616)] := by
  unfold bits_Mul64
  simp only [one_ev, and32 hx, and32 hy, shr32, mulI_u, addI_u, and32 (U_mod _)]
  have := mul64_arith x y hx.1 hx.2 hy.1 hy.2
  rw [this]
/-! ### Roots -/
def IsRoot (N r : Int) : Prop := 0 ≤ r ∧ r * r ≤ N ∧ N < (r + 1) * (r + 1)
theorem IsRoot.uniq {N r s : Int} (h : IsRoot N r) (k : IsRoot N s) : r = s := by
  obtain ⟨a, b, c⟩ := h
  obtain ⟨d, e, f⟩ := k
  rcases Int.lt_trichotomy r s with h | h | h
  · have : (r + 1) * (r + 1) ≤ s * s := Int.mul_le_mul (by omega) (by omega) (by omega) (by omega)
    omega
  · exact h
  · have : (s + 1) * (s + 1) ≤ r * r := Int.mul_le_mul (by omega) (by omega) (by omega) (by omega)
    omega
theorem pow2_pos (i : Nat) : (0 : Int) < 2 ^ i := Int.pow_pos (by decide)
theorem mul_mono {r s : Int} (h0 : 0 ≤ r) (h : r ≤ s) : r * r ≤ s * s := Int.mul_le_mul h h h0 (by omega)
theorem cmp_wide {p q : Int} : (p / 18446744073709551616 < q / 18446744073709551616 ∨ (p / 18446744073709551616 = q / 18446744073709551616 ∧ p % 18446744073709551616 ≤ q % 18446744073709551616)) ↔ p ≤ q := by omega
/-- A multiple of 2^(i+1) below 2^64 leaves room for 2^(i+1). -/
theorem mult_room {r : Int} (hr : U r) (i : Nat) (hi : i ≤ 64) (hm : r % 2 ^ i = 0) : r + 2 ^ i ≤ 18446744073709551616 := by
  have e : (18446744073709551616 : Int) = 2 ^ (64 - i) * 2 ^ i := by
    rw [← Int.pow_add, Nat.sub_add_cancel hi]; rfl
  obtain ⟨q, rfl⟩ := Int.dvd_of_emod_eq_zero hm
  have hp := pow2_pos i
  have h2 := hr.2
  rw [e, Int.mul_comm (2 ^ (64 - i))] at h2 ⊢
  have : q < 2 ^ (64 - i) := Int.lt_of_mul_lt_mul_left h2 (Int.le_of_lt hp)
  have := Int.mul_le_mul_of_nonneg_left (show q + 1 ≤ 2 ^ (64 - i) by omega) (Int.le_of_lt hp)
  rw [Int.mul_add, Int.mul_one] at this
  exact this
end Go.Sx.T

