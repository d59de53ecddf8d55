import Derived.Test.YtllgbgponmkijaaGreatDoorYFixSpec
import Derived.Test.YtllgbgponmkijaaGreatDoorPlA
set_option linter.all false
namespace Go.Sx.T
open Go Go.Sx
theorem shr32 {x : Int} : shrI .u64 x 32 = x / 4294967296 := by
  have := shrI_u .u64 rfl x 32 (by decide)
  simpa using this
theorem and32 {x : Int} (h : U x) : andI .u64 x 4294967295 = x % 4294967296 := by
  have := andI_mask h 32 (by decide) 4294967295 (by decide)
  simpa using this
theorem U_mod (x : Int) : U (x % 18446744073709551616) := by unfold U; omega
theorem bits_Mul64_t {x y : Int} (hx : U x) (hy : U y) : bits_Mul64 x y = some [.i (x * y / 18446744073709551616), .i (x * y % 18446744073709551616)] := by
  unfold bits_Mul64
  simp only [one_ev, and32 hx, and32 hy, shr32, mulI_u, addI_u, and32 (U_mod _)]
  have := mul64_arith x y hx.1 hx.2 hy.1 hy.2
  rw [this]
theorem ref_Wide_t {x y : Int} (hx : U x) (hy : U y) : ref_Wide x y = some [.i (x * y / 18446744073709551616), .i (x * y % 18446744073709551616)] := by
  unfold ref_Wide
  have p : (0 : Int) < 4294967296 := by decide
  have nn : ∀ z : Int, 0 ≤ z % 18446744073709551616 := fun z => by omega
  simp only [one_ev, remI_u hx.1, remI_u hy.1, quoI_u hx p, quoI_u hy p, mulI_u, addI_u, quoI_u (U_mod _) p, remI_u (nn _)]
  have ex : x = x / 4294967296 * 4294967296 + x % 4294967296 := by omega
  have ey : y = y / 4294967296 * 4294967296 + y % 4294967296 := by omega
  have h1 := hx.1; have h2 := hx.2; have h3 := hy.1; have h4 := hy.2
  have hxy : x * y = x / 4294967296 * (y / 4294967296) * 18446744073709551616 + (x / 4294967296 * (y % 4294967296) + x % 4294967296 * (y / 4294967296)) * 4294967296 + x % 4294967296 * (y % 4294967296) := by
    conv => lhs; rw [ex, ey]
    exact split_mul _ _ _ _
  have pA := prod_bound (x / 4294967296) (y / 4294967296) (by omega) (by omega) (by omega) (by omega)
  have pB := prod_bound (x / 4294967296) (y % 4294967296) (by omega) (by omega) (by omega) (by omega)
  have pC := prod_bound (x % 4294967296) (y % 4294967296) (by omega) (by omega) (by omega) (by omega)
  have pD := prod_bound (x % 4294967296) (y / 4294967296) (by omega) (by omega) (by omega) (by omega)
  rw [hxy]
  generalize x / 4294967296 * (y / 4294967296) = A at *
  generalize x / 4294967296 * (y % 4294967296) = B at *
  generalize x % 4294967296 * (y % 4294967296) = C at *
  generalize x % 4294967296 * (y / 4294967296) = D at *
  simp only [Option.some.injEq, List.cons.injEq, Leaf.i.injEq, and_true]
  constructor <;> omega

def M64 : Int := 18446744073709551615
def satM (a b : Int) : Int := min (a * b) M64
def satA (a b : Int) : Int := min (a + b) M64
theorem satM_U {a b : Int} (ha : 0 ≤ a) (hb : 0 ≤ b) : U (satM a b) := by
  have := Int.mul_nonneg ha hb
  unfold satM M64 U; omega
theorem satA_U {a b : Int} (ha : 0 ≤ a) (hb : 0 ≤ b) : U (satA a b) := by
  unfold satA M64 U; omega
theorem fix_Mul_s {a b : Int} (ha : U a) (hb : U b) : fix_Mul a b = some [.i (satM a b)] := by
  unfold fix_Mul satM M64
  simp only [bits_Mul64_t ha hb, out_ev, un_i_ev, un_nil_ev]
  have h0 := Int.mul_nonneg ha.1 hb.1
  by_cases h : a * b / 18446744073709551616 > 0
  · rw [br_pos h, Int.min_eq_right (by omega)]
  · rw [br_neg h, show a * b % 18446744073709551616 = a * b by omega, Int.min_eq_left (by omega)]
theorem fix_Add_s {a b : Int} (ha : 0 ≤ a) (hb : 0 ≤ b) : fix_Add a b = some [.i (satA a b)] := by
  unfold fix_Add addLo addHi satA M64
  rw [chk_pos ⟨ha, hb⟩]
  simp only [one_ev]
  by_cases h : (a + b + 0) / 18446744073709551616 > 0
  · rw [br_pos h, Int.min_eq_right (by omega)]
  · rw [br_neg h, show (a + b + 0) % 18446744073709551616 = a + b by omega, Int.min_eq_left (by omega)]
theorem ref_Add_s' {a b : Int} (ha : U a) (hb : U b) : ref_Add a b = some [.i (satA a b)] := by
  have e : subI .u64 18446744073709551615 a = 18446744073709551615 - a := by rw [subI_u]; unfold U at ha; omega
  unfold ref_Add satA M64
  unfold U at ha hb
  simp only [one_ev, e]
  by_cases h : b > 18446744073709551615 - a
  · rw [br_pos h, Int.min_eq_right (by omega)]
  · rw [br_neg h, addI_u, Int.min_eq_left (by omega), show (a + b) % 18446744073709551616 = a + b by omega]
theorem ref_Mul_s {a b : Int} (ha : U a) (hb : U b) : ref_Mul a b = some [.i (satM a b)] := by
  unfold ref_Mul satM M64
  simp only [ref_Wide_t ha hb, out_ev, un_i_ev, un_nil_ev]
  have h0 : 0 ≤ a * b := Int.mul_nonneg ha.1 hb.1
  by_cases h : a * b / 18446744073709551616 > 0
  · rw [br_pos h, Int.min_eq_right (by omega)]
  · rw [br_neg h, Int.min_eq_left (by omega), show a * b % 18446744073709551616 = a * b by omega]
theorem satM_eq' {a b : Int} (h : a * b ≤ M64) : satM a b = a * b := by unfold satM; omega
def subS (a b : Int) : Int := max (a - b) 0
theorem fix_Sub_s {a b : Int} (ha : U a) (hb : U b) : fix_Sub a b = some [.i (subS a b)] := by
  unfold fix_Sub subS
  unfold U at ha hb
  simp only [one_ev, minI_eq]
  rw [subI_u]
  congr 3
  omega
theorem ref_Sub_s {a b : Int} (ha : U a) (hb : U b) : ref_Sub a b = some [.i (subS a b)] := by
  unfold ref_Sub subS
  unfold U at ha hb
  by_cases h : b > a
  · rw [br_pos h, show max (a - b) 0 = 0 by omega]
  · rw [br_neg h]
    simp only [one_ev]
    rw [subI_u, show (a - b) % 18446744073709551616 = max (a - b) 0 by omega]
end Go.Sx.T

