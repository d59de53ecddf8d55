import Derived.Test.YtbjpcbghchfifaaGreatDoorYRSSpec
import Derived.Test.YtbjpcbghchfifaaGreatDoorPlA
set_option linter.all false
namespace Go.Sx.T
open Go Go.Sx
theorem quoI_n {a b : Int} (ha : 0 ≤ a) (h : a < 9223372036854775808) (hb : 0 < b) : quoI .i64 a b = a / b := by
  unfold quoI
  rw [Int.tdiv_eq_ediv_of_nonneg ha]
  refine wrap_i64_id ?_
  have h1 : 0 ≤ a / b := Int.ediv_nonneg ha (by omega)
  have h2 : a / b ≤ a := Int.ediv_le_self _ ha
  unfold I63; omega
theorem maxI_eq (a b : Int) : maxI a b = max a b := by unfold maxI; split <;> omega
theorem minI_eq (a b : Int) : minI a b = min a b := by unfold minI; split <;> omega
def rtoI (m p : Int) : Int := min (max (m + max (4 * p) 1000) 200000) 64000000
theorem rtt_Sample_new {m p t d : Int} (hd : 0 ≤ d) (hd1 : d ≤ 64000000) : rtt_Sample false m p t d = some [.b true, .i d, .i (d / 2), .i (rtoI d (d / 2))] := by
  unfold rtt_Sample rtoI
  simp only [one_ev, maxI_eq, minI_eq, Bool.not_false, br_t]
  rw [show max d 0 = d by omega, show min d 64000000 = d by omega, quoI_n hd (by omega) (by omega), mulI_i (show I63 (4 * (d / 2)) by unfold I63; omega),
    addI_i (show I63 (d + max (4 * (d / 2)) 1000) by unfold I63; omega)]
theorem rtt_Sample_same {p t d : Int} (hd : 0 ≤ d) (hd1 : d ≤ 64000000) (hp : 0 ≤ p) (hp1 : p ≤ 64000000) : rtt_Sample true d p t d = some [.b true, .i d, .i (3 * p / 4), .i (rtoI d (3 * p / 4))] := by
  have e1 : mulI .i64 3 p = 3 * p := mulI_i (by unfold I63; omega)
  have e2 : subI .i64 d d = 0 := by rw [subI_i (show I63 (d - d) by unfold I63; omega)]; omega
  have e3 : addI .i64 (3 * p) 0 = 3 * p := by rw [addI_i (show I63 (3 * p + 0) by unfold I63; omega)]; omega
  have e4 : quoI .i64 (3 * p) 4 = 3 * p / 4 := quoI_n (by omega) (by omega) (by omega)
  have e5 : mulI .i64 7 d = 7 * d := mulI_i (by unfold I63; omega)
  have e6 : addI .i64 (7 * d) d = 8 * d := by rw [addI_i (show I63 (7 * d + d) by unfold I63; omega)]; omega
  have e7 : quoI .i64 (8 * d) 8 = d := by rw [quoI_n (by omega) (by omega) (by omega)]; omega
  have e8 : mulI .i64 4 (3 * p / 4) = 4 * (3 * p / 4) := mulI_i (by unfold I63; omega)
  have e9 : addI .i64 d (max (4 * (3 * p / 4)) 1000) = d + max (4 * (3 * p / 4)) 1000 := addI_i (by unfold I63; omega)
  unfold rtt_Sample rtoI
  simp only [one_ev, maxI_eq, minI_eq, Bool.not_true, br_f]
  rw [show max d 0 = d by omega, show min d 64000000 = d by omega, e1, e2, show max (0 : Int) 0 = 0 by omega, e3, e4, e5, e6, e7, e8, e9]
theorem p_le {p i : Int} (hp1 : p * (4 ^ i.toNat : Int) ≤ 32000000 * 3 ^ i.toNat) : p ≤ 64000000 := by
  have h4 : (3 : Int) ^ i.toNat ≤ 4 ^ i.toNat := by
    have : (3 : Nat) ^ i.toNat ≤ 4 ^ i.toNat := Nat.pow_le_pow_left (by decide) _
    exact_mod_cast this
  have h0 : (0 : Int) < 4 ^ i.toNat := Int.pow_pos (by decide)
  refine Int.le_of_mul_le_mul_right ?_ h0
  omega
theorem steady16 {d : Int} (hd : 0 ≤ d) (hd1 : d ≤ 64000000) : ∀ (k n : Nat) (p i : Int), k < n → i + k = 60 → 0 ≤ i → 0 ≤ p → p * (4 ^ i.toNat : Int) ≤ 32000000 * 3 ^ i.toNat →
    ∃ p', 0 ≤ p' ∧ p' * (4 ^ 60 : Int) ≤ 32000000 * 3 ^ 60 ∧ ∀ {α : Type} (kx : Nat → List Leaf → Option α) (kr : List Leaf → Option α), RttSteady_16_L kx kr n true d p (rtoI d p) i d = kx 2 [.b true, .i d, .i p', .i (rtoI d p'), .i d] := by
  intro k
  induction k with
  | zero =>
    intro n p i hn hk hi hp hp1
    obtain ⟨n, rfl⟩ : ∃ n', n = n' + 1 := ⟨n - 1, by omega⟩
    obtain rfl : i = 60 := by omega
    refine ⟨p, hp, hp1, fun kx kr => ?_⟩
    simp only [RttSteady_16_L, RttSteady_16_B]
    rw [br_neg (by omega)]
  | succ k ih =>
    intro n p i hn hk hi hp hp1
    obtain ⟨n, rfl⟩ : ∃ n', n = n' + 1 := ⟨n - 1, by omega⟩
    have hle := p_le hp1
    have e1 : (i + 1).toNat = i.toNat + 1 := by omega
    obtain ⟨p', a1, a2, a5⟩ := ih n (3 * p / 4) (i + 1) (by omega) (by omega) (by omega) (by omega) (by
      rw [e1, Int.pow_succ, Int.pow_succ]
      have h0 : (0 : Int) < 4 ^ i.toNat := Int.pow_pos (by decide)
      have h1 : 3 * p / 4 * 4 ≤ 3 * p := by omega
      have h2 := Int.mul_le_mul_of_nonneg_right h1 (Int.le_of_lt h0)
      have h3 : 3 * p / 4 * (4 ^ i.toNat * 4) = 3 * p / 4 * 4 * 4 ^ i.toNat := by rw [Int.mul_comm (4 ^ i.toNat) 4, ← Int.mul_assoc]
      rw [h3]
      have h4 : 3 * p * 4 ^ i.toNat = 3 * (p * 4 ^ i.toNat) := by rw [Int.mul_assoc]
      omega)
    refine ⟨p', a1, a2, fun kx kr => ?_⟩
    simp only [RttSteady_16_L, RttSteady_16_B]
    rw [br_pos (by omega), rtt_Sample_same hd hd1 hp hle]
    simp only [out_ev, un_b_ev, un_i_ev, un_nil_ev, one_ev]
    rw [addI_i (show I63 (i + 1) by unfold I63; omega), a5]
/-- The first loop: once at least. -/
theorem steady9 {d n2 : Int} (hd : 0 ≤ d) (hd1 : d ≤ 64000000) (N : Int) (eN : addI .i64 1 (remI .i64 (addI .i64 (remI .i64 n2 60) 60) 60) = 1 + N) (hN0 : 0 ≤ N) (hN1 : N < 60) :
    ∀ (k n : Nat) (p i : Int), k < n → i + k = 1 + N → 0 ≤ i → 0 ≤ p → p ≤ 32000000 →
    ∃ p', 0 ≤ p' ∧ p' ≤ 32000000 ∧ ∀ {α : Type} (kx : Nat → List Leaf → Option α) (kr : List Leaf → Option α), RttSteady_9_L kx kr n true d p (rtoI d p) i d n2 = kx 0 [.b true, .i d, .i p', .i (rtoI d p'), .i d] := by
  intro k
  induction k with
  | zero =>
    intro n p i hn hk hi hp hp1
    obtain ⟨n, rfl⟩ : ∃ n', n = n' + 1 := ⟨n - 1, by omega⟩
    refine ⟨p, hp, hp1, fun kx kr => ?_⟩
    simp only [RttSteady_9_L, RttSteady_9_B]
    simp only [one_ev, eN]
    rw [br_neg (by omega)]
  | succ k ih =>
    intro n p i hn hk hi hp hp1
    obtain ⟨n, rfl⟩ : ∃ n', n = n' + 1 := ⟨n - 1, by omega⟩
    obtain ⟨p', a1, a2, a5⟩ := ih n (3 * p / 4) (i + 1) (by omega) (by omega) (by omega) (by omega) (by omega)
    refine ⟨p', a1, a2, fun kx kr => ?_⟩
    simp only [RttSteady_9_L, RttSteady_9_B]
    simp only [one_ev, eN]
    rw [br_pos (by omega), rtt_Sample_same hd hd1 hp (by omega)]
    simp only [out_ev, un_b_ev, un_i_ev, un_nil_ev, one_ev, rtt_Smooth, rtt_Rto, Bool.not_true, br_f, bne_self_eq_false, maxI_eq, minI_eq]
    rw [br_neg (by unfold rtoI; omega), addI_i (show I63 (i + 1) by unfold I63; omega), a5]
theorem steady9' {d n2 : Int} (hd : 0 ≤ d) (hd1 : d ≤ 64000000) (N : Int) (eN : addI .i64 1 (remI .i64 (addI .i64 (remI .i64 n2 60) 60) 60) = 1 + N) (hN0 : 0 ≤ N) (hN1 : N < 60) :
    ∃ p', 0 ≤ p' ∧ p' ≤ 32000000 ∧ ∀ {α : Type} (kx : Nat → List Leaf → Option α) (kr : List Leaf → Option α), RttSteady_9_L kx kr top false 0 0 3000000 0 d n2 = kx 0 [.b true, .i d, .i p', .i (rtoI d p'), .i d] := by
  obtain ⟨t, ht⟩ : ∃ t, top = t + 1 := ⟨999999999999999999999999, by decide⟩
  obtain ⟨p', a1, a2, a5⟩ := steady9 hd hd1 N eN hN0 hN1 N.toNat t (d / 2) 1 (by unfold top at ht; omega) (by omega) (by omega) (by omega) (by omega)
  refine ⟨p', a1, a2, fun kx kr => ?_⟩
  rw [ht]
  simp only [RttSteady_9_L, RttSteady_9_B]
  simp only [one_ev, eN]
  rw [br_pos (by omega), rtt_Sample_new hd hd1]
  simp only [out_ev, un_b_ev, un_i_ev, un_nil_ev, one_ev, rtt_Smooth, rtt_Rto, Bool.not_true, br_f, bne_self_eq_false, maxI_eq, minI_eq]
  rw [br_neg (by unfold rtoI; omega), addI_i (show I63 (0 + 1) by unfold I63; omega), show (0 + 1 : Int) = 1 by omega, a5]
theorem steady_N (n2 : Int) : ∃ N, 0 ≤ N ∧ N < 60 ∧ addI .i64 1 (remI .i64 (addI .i64 (remI .i64 n2 60) 60) 60) = 1 + N := by
  unfold remI
  have h1 := Int.tmod_lt_of_pos n2 (show (0 : Int) < 60 by decide)
  have h2 : -60 < n2.tmod 60 := by
    have := Int.lt_tmod_of_pos n2 (show (0 : Int) < 60 by decide)
    omega
  rw [addI_i (show I63 (n2.tmod 60 + 60) by unfold I63; omega), Int.tmod_eq_emod_of_nonneg (show 0 ≤ n2.tmod 60 + 60 by omega)]
  exact ⟨(n2.tmod 60 + 60) % 60, by omega, by omega, addI_i (by unfold I63; omega)⟩
theorem steady_end {d n2 : Int} (hd : 0 ≤ d) (hd1 : d ≤ 64000000) {p : Int} (hp : 0 ≤ p) (hp1 : p ≤ 32000000) {α : Type} (kx : Nat → List Leaf → Option α) (kr : List Leaf → Option α) :
    ∃ p', 0 ≤ p' ∧ p' ≤ 1 ∧ RttSteady_16_L kx kr top true d p (rtoI d p) 0 d = kx 2 [.b true, .i d, .i p', .i (rtoI d p'), .i d] := by
  obtain ⟨p', a1, a2, a3⟩ := steady16 hd hd1 60 top p 0 (by unfold top; omega) (by omega) (by omega) hp (by simpa using hp1)
  exact ⟨p', a1, by omega, a3 kx kr⟩
theorem steady_both {d n2 : Int} (N : Int) (eN : addI .i64 1 (remI .i64 (addI .i64 (remI .i64 n2 60) 60) 60) = 1 + N) (hN0 : 0 ≤ N) (hN1 : N < 60) (hd : 0 ≤ d) (hd1 : d ≤ 64000000) {α : Type}
    (kx : Nat → List Leaf → Option α) (kr : List Leaf → Option α) :
    ∃ p p', RttSteady_9_L kx kr top false 0 0 3000000 0 d n2 = kx 0 [.b true, .i d, .i p, .i (rtoI d p), .i d] ∧
      (∀ {β : Type} (kx' : Nat → List Leaf → Option β) (kr' : List Leaf → Option β), RttSteady_16_L kx' kr' top true d p (rtoI d p) 0 d = kx' 2 [.b true, .i d, .i p', .i (rtoI d p'), .i d]) ∧ rtoI d p' = max 200000 (min (d + 1000) 64000000) := by
  obtain ⟨p, a1, a2, a3⟩ := steady9' (n2 := n2) hd hd1 N eN hN0 hN1
  obtain ⟨p', b1, b2, b3⟩ := steady16 hd hd1 60 top p 0 (by unfold top; omega) (by omega) (by omega) a1 (by simpa using a2)
  exact ⟨p, p', a3 kx kr, b3, by unfold rtoI; omega⟩
theorem RttSteady_true {d n2 : Int} (hd : I63 d) : RttSteady d n2 = some [.b true] := by
  obtain ⟨N, hN0, hN1, eN⟩ := steady_N n2
  unfold RttSteady RttSteady_d
  unfold I63 at hd
  by_cases h : d < 0
  · rw [br_pos h]
    have e1 : addI .i64 d 1 = d + 1 := addI_i (by unfold I63; omega)
    have e2 : subI .i64 0 (d + 1) = 0 - (d + 1) := subI_i (by unfold I63; omega)
    have e3 : remI .i64 (0 - (d + 1)) 64000001 = (0 - (d + 1)) % 64000001 := remI_u (by omega)
    obtain ⟨D, hD⟩ : ∃ D, D = (0 - (d + 1)) % 64000001 := ⟨_, rfl⟩
    have hD0 : 0 ≤ D := by omega
    have hD1 : D ≤ 64000000 := by omega
    simp only [one_ev, e1, e2, e3, ← hD, rtt_New, out_ev, un_b_ev, un_i_ev, un_nil_ev]
    obtain ⟨p, q, k1, k2, k3⟩ := steady_both (n2 := n2) N eN hN0 hN1 hD0 hD1 (α := List Leaf) _ _
    rw [k1]
    simp only [beq00, br_t, un_b_ev, un_i_ev, un_nil_ev, k2, show Nat.beq 2 2 = true by rfl, rtt_Rto, out_ev, one_ev, minI_eq, maxI_eq]
    rw [addI_i (show I63 (D + 1000) by unfold I63; omega), k3, br_eq rfl]
  · rw [br_neg h]
    have e3 : remI .i64 d 64000001 = d % 64000001 := remI_u (by omega)
    obtain ⟨D, hD⟩ : ∃ D, D = d % 64000001 := ⟨_, rfl⟩
    have hD0 : 0 ≤ D := by omega
    have hD1 : D ≤ 64000000 := by omega
    simp only [one_ev, e3, ← hD, rtt_New, out_ev, un_b_ev, un_i_ev, un_nil_ev]
    obtain ⟨p, q, k1, k2, k3⟩ := steady_both (n2 := n2) N eN hN0 hN1 hD0 hD1 (α := List Leaf) _ _
    rw [k1]
    simp only [beq00, br_t, un_b_ev, un_i_ev, un_nil_ev, k2, show Nat.beq 2 2 = true by rfl, rtt_Rto, out_ev, one_ev, minI_eq, maxI_eq]
    rw [addI_i (show I63 (D + 1000) by unfold I63; omega), k3, br_eq rfl]
end Go.Sx.T

