import Derived.Test.YtngjglbakgdgaaaGreatDoorYFixSpec
import Derived.Test.YtngjglbakgdgaaaGreatDoorPlA
set_option linter.all false
namespace Go.Sx.T
open Go Go.Sx
theorem shr32 {x : Int} : shrI .u64 x 32 = x / 4294967296 := by
  have := shrI_u .u64 rfl x 32 (by decide)
  simpa using this
theorem and32 {x : Int} (h : U x) : andI .u64 x 4294967295 = x % 4294967296 := by
  have := andI_mask h 32 (by decide) 4294967295 (by decide)
  simpa using this
theorem U_mod (x : Int) : U (x % 18446744073709551616) := by unfold U; omega
theorem bits_Mul64_t {x y : Int} (hx : U x) (hy : U y) : bits_Mul64 x y = some [.i (x * y / 18446744073709551616), .i (x * y % 18446744073709551616)] := by
  unfold bits_Mul64
  simp only [one_ev, and32 hx, and32 hy, shr32, mulI_u, addI_u, and32 (U_mod _)]
  have := mul64_arith x y hx.1 hx.2 hy.1 hy.2
  rw [this]
theorem ref_Wide_t {x y : Int} (hx : U x) (hy : U y) : ref_Wide x y = some [.i (x * y / 18446744073709551616), .i (x * y % 18446744073709551616)] := by
  unfold ref_Wide
  have p : (0 : Int) < 4294967296 := by decide
  have nn : ∀ z : Int, 0 ≤ z % 18446744073709551616 := fun z => by omega
  simp only [one_ev, remI_u hx.1, remI_u hy.1, quoI_u hx p, quoI_u hy p, mulI_u, addI_u, quoI_u (U_mod _) p, remI_u (nn _)]
  have ex : x = x / 4294967296 * 4294967296 + x % 4294967296 := by omega
  have ey : y = y / 4294967296 * 4294967296 + y % 4294967296 := by omega
  have h1 := hx.1; have h2 := hx.2; have h3 := hy.1; have h4 := hy.2
  have hxy : x * y = x / 4294967296 * (y / 4294967296) * 18446744073709551616 + (x / 4294967296 * (y % 4294967296) + x % 4294967296 * (y / 4294967296)) * 4294967296 + x % 4294967296 * (y % 4294967296) := by
    conv => lhs; rw [ex, ey]
    exact split_mul _ _ _ _
  have pA := prod_bound (x / 4294967296) (y / 4294967296) (by omega) (by omega) (by omega) (by omega)
  have pB := prod_bound (x / 4294967296) (y % 4294967296) (by omega) (by omega) (by omega) (by omega)
  have pC := prod_bound (x % 4294967296) (y % 4294967296) (by omega) (by omega) (by omega) (by omega)
  have pD := prod_bound (x % 4294967296) (y / 4294967296) (by omega) (by omega) (by omega) (by omega)
  rw [hxy]
  generalize x / 4294967296 * (y / 4294967296) = A at *
  generalize x / 4294967296 * (y % 4294967296) = B at *
  generalize x % 4294967296 * (y % 4294967296) = C at *
  generalize x % 4294967296 * (y / 4294967296) = D at *
  simp only [Option.some.injEq, List.cons.injEq, Leaf.i.injEq, and_true]
  constructor <;> omega

/-! ### Roots -/
def IsRoot (N r : Int) : Prop := 0 ≤ r ∧ r * r ≤ N ∧ N < (r + 1) * (r + 1)
theorem IsRoot.uniq {N r s : Int} (h : IsRoot N r) (k : IsRoot N s) : r = s := by
  obtain ⟨a, b, c⟩ := h
  obtain ⟨d, e, f⟩ := k
  rcases Int.lt_trichotomy r s with h | h | h
  · have : (r + 1) * (r + 1) ≤ s * s := Int.mul_le_mul (by omega) (by omega) (by omega) (by omega)
    omega
  · exact h
  · have : (s + 1) * (s + 1) ≤ r * r := Int.mul_le_mul (by omega) (by omega) (by omega) (by omega)
    omega
theorem pow2_pos (i : Nat) : (0 : Int) < 2 ^ i := Int.pow_pos (by decide)
theorem mul_mono {r s : Int} (h0 : 0 ≤ r) (h : r ≤ s) : r * r ≤ s * s := Int.mul_le_mul h h h0 (by omega)
theorem cmp_wide {p q : Int} : (p / 18446744073709551616 < q / 18446744073709551616 ∨ (p / 18446744073709551616 = q / 18446744073709551616 ∧ p % 18446744073709551616 ≤ q % 18446744073709551616)) ↔ p ≤ q := by omega
/-- A multiple of 2^(i+1) below 2^64 leaves room for 2^(i+1). -/
theorem mult_room {r : Int} (hr : U r) (i : Nat) (hi : i ≤ 64) (hm : r % 2 ^ i = 0) : r + 2 ^ i ≤ 18446744073709551616 := by
  have e : (18446744073709551616 : Int) = 2 ^ (64 - i) * 2 ^ i := by
    rw [← Int.pow_add, Nat.sub_add_cancel hi]; rfl
  obtain ⟨q, rfl⟩ := Int.dvd_of_emod_eq_zero hm
  have hp := pow2_pos i
  have h2 := hr.2
  rw [e, Int.mul_comm (2 ^ (64 - i))] at h2 ⊢
  have : q < 2 ^ (64 - i) := Int.lt_of_mul_lt_mul_left h2 (Int.le_of_lt hp)
  have := Int.mul_le_mul_of_nonneg_left (show q + 1 ≤ 2 ^ (64 - i) by omega) (Int.le_of_lt hp)
  rw [Int.mul_add, Int.mul_one] at this
  exact this
theorem fix_SqrtMul_L {N : Int} (hN : 0 ≤ N) :
    ∀ (i n : Nat) (root : Int), i ≤ 64 → i < n → U root → root % 2 ^ i = 0 → root * root ≤ N → N < (root + 2 ^ i) * (root + 2 ^ i) →
    ∃ r, IsRoot N r ∧ U r ∧ ∀ {α : Type} (kx : Nat → List Leaf → Option α) (kr : List Leaf → Option α), fix_SqrtMul_4_L kx kr n (2 ^ i / 2) root (N % 18446744073709551616) (N / 18446744073709551616) = kx 0 [.i r]
  | 0, n + 1, root, _, _, hr, _, h1, h2 => by
    refine ⟨root, ⟨hr.1, h1, by simpa using h2⟩, hr, fun kx kr => ?_⟩
    simp [fix_SqrtMul_4_L, fix_SqrtMul_4_B, br]
  | i + 1, n + 1, root, hi, hn, hr, hm, h1, h2 => by
    have hp := pow2_pos i
    have e2 : (2 : Int) ^ (i + 1) = 2 * 2 ^ i := by rw [Int.pow_succ, Int.mul_comm]
    have hroom := mult_room hr (i + 1) hi hm
    have hor := orI_bit hr i (by omega) hm
    have hu : U (root + 2 ^ i) := ⟨by have := hr.1; omega, by omega⟩
    have hdiv : (2 : Int) ^ (i + 1) / 2 = 2 ^ i := by omega
    have hm0 : root % 2 ^ i = 0 := by
      have : (2 : Int) ^ i ∣ root := Int.dvd_trans ⟨2, by omega⟩ (Int.dvd_of_emod_eq_zero hm)
      exact Int.emod_eq_zero_of_dvd this
    have hm1 : (root + 2 ^ i) % 2 ^ i = 0 := by rw [Int.add_emod_right]; exact hm0
    have hshr : shrI .u64 (2 ^ i) 1 = 2 ^ i / 2 := by
      have := shrI_u .u64 rfl (2 ^ i) 1 (by decide)
      simpa using this
    have ihY := fix_SqrtMul_L hN i n (root + 2 ^ i) (by omega) (by omega) hu hm1
    have ihN := fix_SqrtMul_L hN i n root (by omega) (by omega) hr hm0 h1
    by_cases hc : (root + 2 ^ i) * (root + 2 ^ i) ≤ N
    · obtain ⟨r, a, b, c⟩ := ihY hc (by rw [show root + 2 ^ i + 2 ^ i = root + 2 ^ (i + 1) by omega]; exact h2)
      refine ⟨r, a, b, fun kx kr => ?_⟩
      rw [hdiv]
      simp only [fix_SqrtMul_4_L, fix_SqrtMul_4_B]
      rw [show decide ((2 : Int) ^ i > 0) = true by simpa using hp]
      simp only [br_t, one_ev, hor, bits_Mul64_t hu hu, out_ev, un_i_ev, un_nil_ev, hshr]
      rcases cmp_wide.2 hc with h | ⟨h, h'⟩
      · rw [show decide ((root + 2 ^ i) * (root + 2 ^ i) / 18446744073709551616 < N / 18446744073709551616) = true by simpa using h]
        exact c kx kr
      · rw [show decide ((root + 2 ^ i) * (root + 2 ^ i) / 18446744073709551616 < N / 18446744073709551616) = false by rw [h]; simp]
        rw [show ((root + 2 ^ i) * (root + 2 ^ i) / 18446744073709551616 == N / 18446744073709551616) = true by simpa using h]
        rw [show decide ((root + 2 ^ i) * (root + 2 ^ i) % 18446744073709551616 ≤ N % 18446744073709551616) = true by simpa using h']
        exact c kx kr
    · obtain ⟨r, a, b, c⟩ := ihN (by omega)
      refine ⟨r, a, b, fun kx kr => ?_⟩
      rw [hdiv]
      simp only [fix_SqrtMul_4_L, fix_SqrtMul_4_B]
      rw [show decide ((2 : Int) ^ i > 0) = true by simpa using hp]
      simp only [br_t, one_ev, hor, bits_Mul64_t hu hu, out_ev, un_i_ev, un_nil_ev, hshr]
      have hno := mt cmp_wide.1 hc
      rw [not_or, not_and] at hno
      rw [show decide ((root + 2 ^ i) * (root + 2 ^ i) / 18446744073709551616 < N / 18446744073709551616) = false by simpa using hno.1]
      cases hq : ((root + 2 ^ i) * (root + 2 ^ i) / 18446744073709551616 == N / 18446744073709551616) with
      | false => exact c kx kr
      | true =>
        rw [show decide ((root + 2 ^ i) * (root + 2 ^ i) % 18446744073709551616 ≤ N % 18446744073709551616) = false by simpa using hno.2 (eq_of_beq hq)]
        exact c kx kr
theorem fix_SqrtMul_t {a b : Int} (ha : U a) (hb : U b) : ∃ r, IsRoot (a * b) r ∧ U r ∧ fix_SqrtMul a b = some [.i r] := by
  have hN : 0 ≤ a * b := Int.mul_nonneg ha.1 hb.1
  have hlt : a * b < 18446744073709551616 * 18446744073709551616 := Int.lt_of_le_of_lt (Int.mul_le_mul_of_nonneg_left (Int.le_of_lt hb.2) ha.1) (Int.mul_lt_mul_of_pos_right ha.2 (by decide))
  obtain ⟨r, h1, h2, h3⟩ := fix_SqrtMul_L hN 64 top 0 (by decide) (by unfold top; omega) ⟨by decide, by decide⟩ (by decide) (by omega) (by simpa using hlt)
  refine ⟨r, h1, h2, ?_⟩
  rw [show (2 : Int) ^ 64 / 2 = 9223372036854775808 by decide] at h3
  unfold fix_SqrtMul fix_SqrtMul_d
  simp only [bits_Mul64_t ha hb, out_ev, un_i_ev, un_nil_ev, one_ev, h3, beq00, br_t]
theorem fix_Sqrt_t {a : Int} (ha : U a) : ∃ r, IsRoot a r ∧ U r ∧ fix_Sqrt a = some [.i r] := by
  obtain ⟨r, h1, h2, h3⟩ := fix_SqrtMul_t ha (b := 1) (by unfold U; omega)
  refine ⟨r, by simpa using h1, h2, ?_⟩
  unfold fix_Sqrt
  simp only [h3, out_ev, un_i_ev, un_nil_ev]
end Go.Sx.T

