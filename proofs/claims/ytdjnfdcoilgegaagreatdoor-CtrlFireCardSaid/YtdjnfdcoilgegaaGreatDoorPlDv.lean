import Derived.Test.YtdjnfdcoilgegaaGreatDoorPlKn
set_option linter.all false
namespace Go.Sx.T
open Go Go.Sx
theorem orI_low {a b : Int} (ha : U a) (s : Nat) (hs : s ≤ 63) (hm : a % 2 ^ s = 0) (hb0 : 0 ≤ b) (hb : b < 2 ^ s) : orI .u64 a b = a + b := by
  have hlt : (2 : Nat) ^ s ≤ 2 ^ 63 := Nat.pow_le_pow_right (by decide) hs
  obtain ⟨n, rfl⟩ : ∃ n : Nat, a = n := ⟨a.toNat, (Int.toNat_of_nonneg ha.1).symm⟩
  obtain ⟨k, rfl⟩ : ∃ n : Nat, b = n := ⟨b.toNat, (Int.toNat_of_nonneg hb0).symm⟩
  have hk : k < 2 ^ s := by
    have : ((k : Nat) : Int) < ((2 ^ s : Nat) : Int) := by push_cast; exact hb
    exact_mod_cast this
  have hn : n % 2 ^ s = 0 := by
    have : ((n % 2 ^ s : Nat) : Int) = 0 := by push_cast; exact hm
    exact_mod_cast this
  have hn2 : n < 2 ^ 64 := by have := toNat_lt ha; simpa using this
  rw [orI_nat _ _ hn2 (Nat.lt_of_lt_of_le hk (Nat.le_trans hlt (by decide)))]
  obtain ⟨q, rfl⟩ := Nat.dvd_of_mod_eq_zero hn
  rw [← Nat.two_pow_add_eq_or_of_lt hk]
  push_cast
  rfl
theorem kn_start {V u u0 yn1 yn0 : Int} (hV : V = yn1 * 4294967296 + yn0) (y1 : 2147483648 ≤ yn1) (y1' : yn1 < 4294967296) (y0 : 0 ≤ yn0) (y0' : yn0 < 4294967296) (u_ : 0 ≤ u) (uV : u < V) (u0_ : 0 ≤ u0) (u0' : u0 < 4294967296) :
    KnInv V u u0 yn1 yn0 (u - u / yn1 * yn1) (u / yn1) := by
  have hp : 0 < yn1 := by omega
  have e := Int.emod_add_mul_ediv u yn1
  have l := Int.emod_lt_of_pos u hp
  have g := Int.emod_nonneg u (show yn1 ≠ 0 by omega)
  have ec : yn1 * (u / yn1) = u / yn1 * yn1 := Int.mul_comm _ _
  have q0 : 0 ≤ u / yn1 := Int.ediv_nonneg u_ (by omega)
  refine ⟨hV, y1, y1', y0, y0', u_, uV, u0_, u0', by omega, by omega, by omega, ?_, ?_⟩
  · have : (u * 4294967296 + u0) / V < u / yn1 + 1 := by
      rw [Int.ediv_lt_iff_lt_mul (by omega)]
      have e2 : (u / yn1 + 1) * V = (u / yn1 * yn1 + yn1) * 4294967296 + (u / yn1 + 1) * yn0 := by rw [hV]; grind
      have := Int.mul_nonneg (show 0 ≤ u / yn1 + 1 by omega) y0
      rw [e2]
      omega
    omega
  · have : u / yn1 < 4294967298 := by
      rw [Int.ediv_lt_iff_lt_mul hp]
      omega
    omega
theorem bits_Div64_t {hi lo y : Int} (hhi : U hi) (hlo : U lo) (hy : U y) (h : hi < y) : ∃ r, bits_Div64 hi lo y = some [.i ((hi * 18446744073709551616 + lo) / y), .i r] := by
  have hi0 := hhi.1; have hi1 := hhi.2; have lo0 := hlo.1; have lo1 := hlo.2; have yy0 := hy.1; have yy1 := hy.2
  unfold bits_Div64 bits_Div64_d
  rw [br_ne (show y ≠ 0 by omega), br_neg (show ¬ y ≤ hi by omega)]
  by_cases hz : hi = 0
  · rw [br_eq hz]
    refine ⟨remI .u64 lo y, ?_⟩
    rw [chk_pos (show y ≠ 0 by omega)]
    simp only [one_ev]
    rw [chk_pos (show y ≠ 0 by omega), quoI_u hlo (by omega), hz]
    simp
  · rw [br_ne hz]
    obtain ⟨m, hm, hlo2, hhi2, hlen⟩ := bits_Len64_t hy (by omega)
    obtain ⟨s, hs⟩ : ∃ s : Nat, s + m = 63 := ⟨63 - m, by omega⟩
    have hs63 : s ≤ 63 := by omega
    have hlz : bits_LeadingZeros64 y = some [.i (s : Int)] := by
      unfold bits_LeadingZeros64
      simp only [hlen, out_ev, un_i_ev, un_nil_ev, one_ev]
      rw [subI_i (by unfold I63; omega)]
      congr 3; omega
    have hp := pow2_pos s
    have hpm := pow2_pos (64 - s)
    have e64 : (18446744073709551616 : Int) = 2 ^ s * 2 ^ (64 - s) := by
      rw [← Int.pow_add, Nat.add_sub_cancel' (by omega : s ≤ 64)]; rfl
    have e63 : (9223372036854775808 : Int) = 2 ^ m * 2 ^ s := by
      rw [← Int.pow_add, Nat.add_comm, hs]; rfl
    have e64' : (18446744073709551616 : Int) = 2 ^ (m + 1) * 2 ^ s := by
      rw [← Int.pow_add, show m + 1 + s = 64 by omega]; rfl
    generalize hV : y * 2 ^ s = V
    have V1 : 9223372036854775808 ≤ V := by
      rw [e63, ← hV]; exact Int.mul_le_mul_of_nonneg_right hlo2 (Int.le_of_lt hp)
    have V2 : V < 18446744073709551616 := by
      rw [e64', ← hV]; exact Int.mul_lt_mul_of_pos_right hhi2 hp
    have hVU : U V := ⟨by omega, V2⟩
    have hhs : hi * 2 ^ s + 2 ^ s ≤ V := by
      rw [← hV, show hi * 2 ^ s + 2 ^ s = (hi + 1) * 2 ^ s by grind]
      exact Int.mul_le_mul_of_nonneg_right (by omega) (Int.le_of_lt hp)
    have hhs0 : 0 ≤ hi * 2 ^ s := Int.mul_nonneg hi0 (Int.le_of_lt hp)
    have a1 : shlI .u64 y (s : Int) = V := by rw [shlI_u y s (by omega), hV]; omega
    have a2 : shlI .u64 hi (s : Int) = hi * 2 ^ s := by rw [shlI_u hi s (by omega)]; omega
    have a3 : subI .u64 64 (s : Int) = ((64 - s : Nat) : Int) := by rw [subI_u]; omega
    have a4 : shrI .u64 lo ((64 - s : Nat) : Int) = lo / 2 ^ (64 - s) := shrI_u .u64 rfl lo (64 - s) (by omega)
    have l0 : 0 ≤ lo / 2 ^ (64 - s) := Int.ediv_nonneg lo0 (Int.le_of_lt hpm)
    have l1 : lo / 2 ^ (64 - s) < 2 ^ s := by
      rw [Int.ediv_lt_iff_lt_mul hpm, ← e64]; exact lo1
    have a5 : orI .u64 (hi * 2 ^ s) (lo / 2 ^ (64 - s)) = hi * 2 ^ s + lo / 2 ^ (64 - s) := orI_low ⟨hhs0, by omega⟩ s hs63 (Int.mul_emod_left _ _) l0 l1
    have a6 : shlI .u64 lo (s : Int) = lo * 2 ^ s % 18446744073709551616 := shlI_u lo s (by omega)
    have a7 : wrapI .u64 (s : Int) = (s : Int) := by rw [wrapI_u]; omega
    have l2 : lo * 2 ^ s / 18446744073709551616 = lo / 2 ^ (64 - s) := by
      rw [e64, Int.mul_comm (2 ^ s) (2 ^ (64 - s)), Int.mul_ediv_mul_of_pos_left _ _ hp]
    -- the words
    generalize hu32 : hi * 2 ^ s + lo / 2 ^ (64 - s) = u32 at *
    generalize hu10 : lo * 2 ^ s % 18446744073709551616 = u10 at *
    have u10U : U u10 := by rw [← hu10]; exact U_mod _
    have u10a := u10U.1; have u10b := u10U.2
    have hNs : (hi * 18446744073709551616 + lo) * 2 ^ s = u32 * 18446744073709551616 + u10 := by
      have e1 : (hi * 18446744073709551616 + lo) * 2 ^ s = hi * 2 ^ s * 18446744073709551616 + lo * 2 ^ s := by grind
      rw [e1]
      omega
    have hu32a : 0 ≤ u32 := by omega
    have hu32b : u32 < V := by omega
    have hVs : V = V / 4294967296 * 4294967296 + V % 4294967296 := by omega
    have k1 := kn_start (V := V) (u := u32) (u0 := u10 / 4294967296) hVs (by omega) (by omega) (by omega) (by omega) hu32a hu32b (by omega) (by omega)
    -- the first digit
    generalize hyn1 : V / 4294967296 = yn1 at *
    generalize hyn0 : V % 4294967296 = yn0 at *
    have yn1p : 0 < yn1 := by omega
    have b1 : quoI .u64 u32 yn1 = u32 / yn1 := quoI_u ⟨hu32a, by omega⟩ yn1p
    have q1a : 0 ≤ u32 / yn1 := Int.ediv_nonneg hu32a (by omega)
    have q1s := k1.sum; have q1r := k1.r0
    have b2 : mulI .u64 (u32 / yn1) yn1 = u32 / yn1 * yn1 := by
      rw [mulI_u]
      have := Int.mul_nonneg q1a (Int.le_of_lt yn1p)
      omega
    have b3 : subI .u64 u32 (u32 / yn1 * yn1) = u32 - u32 / yn1 * yn1 := by
      have := Int.mul_nonneg q1a (Int.le_of_lt yn1p)
      rw [subI_u]; omega
    generalize hW1 : u32 * 4294967296 + u10 / 4294967296 = W1 at *
    have hVp : 0 < V := by omega
    have hW1a : 0 ≤ W1 := by omega
    have q1lt : W1 / V < 4294967296 := by rw [Int.ediv_lt_iff_lt_mul hVp]; omega
    have q1ge : 0 ≤ W1 / V := Int.ediv_nonneg hW1a (by omega)
    have hR := Int.emod_add_mul_ediv W1 V
    have hRl := Int.emod_lt_of_pos W1 hVp
    have hRg := Int.emod_nonneg W1 (show V ≠ 0 by omega)
    have hcomm : V * (W1 / V) = W1 / V * V := Int.mul_comm _ _
    have c1 : subI .u64 (addI .u64 (mulI .u64 u32 4294967296) (u10 / 4294967296)) (mulI .u64 (W1 / V) V) = W1 % V := by
      rw [subI_u, addI_u, mulI_u, mulI_u]
      generalize W1 / V * V = PP at *
      omega
    have k2 := kn_start (V := V) (u := W1 % V) (u0 := u10 % 4294967296) hVs (by omega) (by omega) (by omega) (by omega) hRg hRl (by omega) (by omega)
    generalize hR1 : W1 % V = R1 at *
    have d1 : quoI .u64 R1 yn1 = R1 / yn1 := quoI_u ⟨hRg, by omega⟩ yn1p
    have q2a : 0 ≤ R1 / yn1 := Int.ediv_nonneg hRg (by omega)
    have q2s := k2.sum; have q2r := k2.r0
    have d2 : mulI .u64 (R1 / yn1) yn1 = R1 / yn1 * yn1 := by
      rw [mulI_u]
      have := Int.mul_nonneg q2a (Int.le_of_lt yn1p)
      omega
    have d3 : subI .u64 R1 (R1 / yn1 * yn1) = R1 - R1 / yn1 * yn1 := by
      have := Int.mul_nonneg q2a (Int.le_of_lt yn1p)
      rw [subI_u]; omega
    generalize hW2 : R1 * 4294967296 + u10 % 4294967296 = W2 at *
    have q2lt : W2 / V < 4294967296 := by rw [Int.ediv_lt_iff_lt_mul hVp]; omega
    have q2ge : 0 ≤ W2 / V := Int.ediv_nonneg (by omega) (by omega)
    have e1 : addI .u64 (mulI .u64 (W1 / V) 4294967296) (W2 / V) = W1 / V * 4294967296 + W2 / V := by rw [addI_u, mulI_u]; omega
    have fin : (hi * 18446744073709551616 + lo) / y = W1 / V * 4294967296 + W2 / V := by
      rw [← Int.mul_ediv_mul_of_pos_left (hi * 18446744073709551616 + lo) y hp, hV, hNs]
      have : u32 * 18446744073709551616 + u10 = W2 + W1 / V * 4294967296 * V := by
        have e3 : W1 / V * 4294967296 * V = W1 / V * V * 4294967296 := by grind
        rw [e3]
        generalize W1 / V * V = PP at *
        omega
      rw [this, Int.add_mul_ediv_right _ _ (show V ≠ 0 by omega), Int.add_comm]
    refine ⟨shrI .u64 (subI .u64 (addI .u64 (mulI .u64 R1 4294967296) (u10 % 4294967296)) (mulI .u64 (W2 / V) V)) (s : Int), ?_⟩
    simp only [hlz, out_ev, un_i_ev, un_nil_ev, one_ev, a7]
    rw [chk_pos (show 0 ≤ (s : Int) by omega)]
    simp only [a1]
    rw [chk_pos (show 0 ≤ (s : Int) by omega)]
    simp only [a2, a3]
    rw [chk_pos (show 0 ≤ ((64 - s : Nat) : Int) by omega)]
    simp only [a4, a5]
    rw [chk_pos (show 0 ≤ (s : Int) by omega)]
    simp only [a6, shr32, and32 u10U, and32 hVU, hyn1, hyn0]
    rw [chk_pos (show yn1 ≠ 0 by omega)]
    simp only [b1, b2, b3]
    rw [div17_L 2 top (u32 - u32 / yn1 * yn1) (u32 / yn1) (by unfold top; omega) k1 (by omega)]
    simp only [beq00, br_t, un_i_ev, un_nil_ev, hW1, c1]
    rw [chk_pos (show yn1 ≠ 0 by omega)]
    simp only [d1, d2, d3]
    rw [div24_L 2 top (R1 - R1 / yn1 * yn1) (R1 / yn1) (by unfold top; omega) k2 (by omega)]
    rw [show Nat.beq 2 2 = true by rfl]
    simp only [br_t, un_i_ev, un_nil_ev, hW2, e1]
    rw [chk_pos (show 0 ≤ (s : Int) by omega), fin]
theorem fix_MulDiv_t {a b c : Int} (ha : U a) (hb : U b) (hc : U c) : fix_MulDiv a b c = some [.i (mdI a b c)] := by
  have hN : 0 ≤ a * b := Int.mul_nonneg ha.1 hb.1
  have hlt : a * b < 18446744073709551616 * 18446744073709551616 := Int.lt_of_le_of_lt (Int.mul_le_mul_of_nonneg_left (Int.le_of_lt hb.2) ha.1) (Int.mul_lt_mul_of_pos_right ha.2 (by decide))
  unfold fix_MulDiv
  simp only [bits_Mul64_t ha hb, out_ev, un_i_ev, un_nil_ev, one_ev]
  have hh0 : 0 ≤ a * b / 18446744073709551616 := by omega
  by_cases h0 : c = 0
  · rw [br_pos (show a * b / 18446744073709551616 ≥ c by omega)]; simp [mdI, h0]
  · have hcp : 0 < c := by have := hc.1; omega
    by_cases ht : a * b / 18446744073709551616 ≥ c
    · rw [br_pos ht]
      have := (md_top hN hcp).1 ht
      simp only [mdI, if_neg h0]
      rw [Int.min_eq_right (by omega)]
    · rw [br_neg ht]
      obtain ⟨r, hr⟩ := bits_Div64_t (hi := a * b / 18446744073709551616) (lo := a * b % 18446744073709551616) ⟨hh0, by omega⟩ (U_mod _) hc (by omega)
      have := mt (md_top hN hcp).2 ht
      simp only [hr, out_ev, un_i_ev, un_nil_ev, one_ev, mdI, if_neg h0]
      rw [Int.min_eq_left (by omega), show a * b / 18446744073709551616 * 18446744073709551616 + a * b % 18446744073709551616 = a * b by omega]
end Go.Sx.T

