import Derived.Test.YtngjglbakgdgaaaGreatDoorPlFix
set_option linter.all false
namespace Go.Sx.T
open Go Go.Sx
/-- The whole part of a times b by c, or the greatest number. -/
def mdI (a b c : Int) : Int := if c = 0 then 18446744073709551615 else min (a * b / c) 18446744073709551615
theorem mdI_U (a b c : Int) (ha : 0 ≤ a) (hb : 0 ≤ b) (hc : 0 ≤ c) : U (mdI a b c) := by
  unfold mdI U
  split
  · omega
  · have := Int.ediv_nonneg (Int.mul_nonneg ha hb) hc
    omega
theorem md_top {p c : Int} (hp : 0 ≤ p) (hc : 0 < c) : p / 18446744073709551616 ≥ c ↔ 18446744073709551615 < p / c := by
  rw [show (18446744073709551615 < p / c) ↔ 18446744073709551616 ≤ p / c by omega, Int.le_ediv_iff_mul_le hc, ge_iff_le, Int.le_ediv_iff_mul_le (by decide), Int.mul_comm]
theorem ref_MulDiv_L {N c l : Int} (hN : 0 ≤ N) (hc : 0 < c) (hcU : U c) (hl : l = N % 18446744073709551616) :
    ∀ (i n : Nat) (idx q rest : Int), idx = (i : Int) - 1 → i ≤ 64 → i < n → 0 ≤ rest → rest < c → 0 ≤ q → q < 2 ^ (64 - i) → N / 2 ^ i = q * c + rest →
    ∀ {α : Type} (kx : Nat → List Leaf → Option α) (kr : List Leaf → Option α), ref_MulDiv_7_L kx kr n idx c q l rest = kx 0 [.i (N / c)]
  | 0, n + 1, idx, q, rest, hix, _, _, h0, h1, hq0, _, hd => by
    intro kx kr
    subst hix
    have : N / c = q := by
      rw [show N = rest + q * c by simpa [Int.add_comm] using hd, Int.add_mul_ediv_right _ _ (by omega), Int.ediv_eq_zero_of_lt h0 h1]; omega
    rw [this]
    simp only [ref_MulDiv_7_L, ref_MulDiv_7_B]
    rw [br_neg (by omega)]
  | i + 1, n + 1, idx, q, rest, hix, hi, hn, h0, h1, hq0, hq, hd => by
    intro kx kr
    have hp := pow2_pos i
    have e2 : (2 : Int) ^ (i + 1) = 2 * 2 ^ i := by rw [Int.pow_succ, Int.mul_comm]
    have hidx : idx = (i : Int) := by omega
    have hlU : U l := by rw [hl]; exact U_mod N
    have hsub : subI .i64 (i : Int) 1 = (i : Int) - 1 := subI_i (by unfold I63; omega)
    have hwr : wrapI .u64 (i : Int) = (i : Int) := by rw [wrapI_u]; omega
    have hsh : shrI .u64 l (i : Int) = l / 2 ^ i := shrI_u .u64 rfl l i (by omega)
    -- the bit
    have hbit : l / 2 ^ i % 2 = N / 2 ^ i % 2 := by
      have e : (18446744073709551616 : Int) = 2 * (2 ^ (63 - i) * 2 ^ i) := by
        rw [← Int.pow_add, Nat.sub_add_cancel (by omega : i ≤ 63)]; rfl
      have hN' : N = l + (N / 18446744073709551616 * (2 * 2 ^ (63 - i))) * 2 ^ i := by
        rw [hl]
        have : N / 18446744073709551616 * (2 * 2 ^ (63 - i)) * 2 ^ i = N / 18446744073709551616 * 18446744073709551616 := by
          conv => rhs; rw [e]
          grind
        rw [this]; omega
      have : N / 2 ^ i = l / 2 ^ i + N / 18446744073709551616 * (2 * 2 ^ (63 - i)) := by
        conv => lhs; rw [hN']
        rw [Int.add_mul_ediv_right _ _ (by omega)]
      rw [this, show N / 18446744073709551616 * (2 * 2 ^ (63 - i)) = 2 * (N / 18446744073709551616 * 2 ^ (63 - i)) by grind]
      omega
    have hhalf : N / 2 ^ i / 2 = N / 2 ^ (i + 1) := by
      rw [e2, Int.mul_comm, Int.ediv_ediv_of_nonneg (Int.le_of_lt hp)]
    have hlnn : 0 ≤ l / 2 ^ i := Int.ediv_nonneg hlU.1 (Int.le_of_lt hp)
    have hrem : remI .u64 (l / 2 ^ i) 2 = N / 2 ^ i % 2 := by rw [remI_u hlnn, hbit]
    have hv : N / 2 ^ i = 2 * (q * c) + 2 * rest + N / 2 ^ i % 2 := by omega
    have hqlt : 2 * q + 1 < 2 ^ (64 - i) := by
      have : (2 : Int) ^ (64 - i) = 2 * 2 ^ (64 - (i + 1)) := by
        rw [show 64 - i = (64 - (i + 1)) + 1 by omega, Int.pow_succ, Int.mul_comm]
      omega
    have hq64 : (2 : Int) ^ (64 - i) ≤ 18446744073709551616 := by
      have : (18446744073709551616 : Int) = 2 ^ (64 - i) * 2 ^ i := by
        rw [← Int.pow_add, Nat.sub_add_cancel (by omega : i ≤ 64)]; rfl
      rw [this]
      have := pow2_pos (64 - i)
      have h := Int.mul_le_mul_of_nonneg_left (show (1 : Int) ≤ 2 ^ i by omega) (Int.le_of_lt this)
      rw [Int.mul_one] at h
      exact h
    have hm2 : mulI .u64 q 2 = 2 * q := by rw [mulI_u]; omega
    have hq1 : addI .u64 (2 * q) 1 = 2 * q + 1 := by rw [addI_u]; omega
    have hcl := hcU.2
    have ihA := ref_MulDiv_L hN hc hcU hl i n ((i : Int) - 1) (2 * q + 1) (2 * rest + N / 2 ^ i % 2 - c) rfl (by omega) (by omega)
    have ihB := ref_MulDiv_L hN hc hcU hl i n ((i : Int) - 1) (2 * q) (2 * rest + N / 2 ^ i % 2) rfl (by omega) (by omega)
    have eqc : (2 * q + 1) * c = 2 * (q * c) + c := by grind
    have eqc2 : (2 * q) * c = 2 * (q * c) := by grind
    rw [hidx]
    simp only [ref_MulDiv_7_L, ref_MulDiv_7_B]
    rw [br_pos (show (i : Int) ≥ 0 by omega)]
    simp only [one_ev, hwr]
    rw [chk_pos (show 0 ≤ (i : Int) by omega)]
    simp only [hsh, hrem, hm2, hsub, hq1]
    generalize N / 2 ^ i = X at *
    by_cases hbig : rest ≥ 9223372036854775808
    · have hx : addI .u64 (mulI .u64 rest 2) (X % 2) = 2 * rest + X % 2 - 18446744073709551616 := by rw [addI_u, mulI_u]; omega
      have hy : subI .u64 (2 * rest + X % 2 - 18446744073709551616) c = 2 * rest + X % 2 - c := by rw [subI_u]; omega
      rw [br_pos hbig, hx, hy]
      exact ihA (by omega) (by omega) (by omega) (by omega) (by omega) kx kr
    · have hx : addI .u64 (mulI .u64 rest 2) (X % 2) = 2 * rest + X % 2 := by rw [addI_u, mulI_u]; omega
      rw [br_neg hbig, hx]
      by_cases hge : 2 * rest + X % 2 ≥ c
      · have hy : subI .u64 (2 * rest + X % 2) c = 2 * rest + X % 2 - c := by rw [subI_u]; omega
        rw [br_pos hge, hy]
        exact ihA (by omega) (by omega) (by omega) (by omega) (by omega) kx kr
      · rw [br_neg hge]
        exact ihB (by omega) (by omega) (by omega) (by omega) (by omega) kx kr
theorem ref_MulDiv_t {a b c : Int} (ha : U a) (hb : U b) (hc : U c) : ref_MulDiv a b c = some [.i (mdI a b c)] := by
  have hN : 0 ≤ a * b := Int.mul_nonneg ha.1 hb.1
  unfold ref_MulDiv ref_MulDiv_d
  simp only [ref_Wide_t ha hb, out_ev, one_ev, un_i_ev, un_nil_ev]
  by_cases h0 : c = 0
  · rw [br_eq h0]; simp [mdI, h0]
  · rw [br_ne h0]
    have hcp : 0 < c := by have := hc.1; omega
    by_cases ht : a * b / 18446744073709551616 ≥ c
    · rw [br_pos ht]
      have := (md_top hN hcp).1 ht
      simp only [mdI, if_neg h0]
      rw [Int.min_eq_right (by omega)]
    · rw [br_neg ht]
      have := mt (md_top hN hcp).2 ht
      rw [ref_MulDiv_L hN hcp hc rfl 64 top 63 0 (a * b / 18446744073709551616) (by omega) (by decide) (by unfold top; omega) (by omega) (by omega) (by omega) (by decide) (by rw [show (2 : Int) ^ 64 = 18446744073709551616 by decide]; omega)]
      simp only [beq00, br_t, un_i_ev, un_nil_ev, mdI, if_neg h0]
      rw [Int.min_eq_left (by omega)]
end Go.Sx.T

