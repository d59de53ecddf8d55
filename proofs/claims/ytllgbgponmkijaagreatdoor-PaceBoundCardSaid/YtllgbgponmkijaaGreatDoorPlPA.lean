import Derived.Test.YtllgbgponmkijaaGreatDoorPlPX
import Derived.Test.YtllgbgponmkijaaGreatDoorYPASpec
set_option linter.all false
namespace Go.Sx.T
open Go Go.Sx
theorem getD_U {l : List Int} (h : ∀ x ∈ l, U x) (i : Nat) : U (l.getD i 0) := by
  rw [List.getD_eq_getElem?_getD]
  cases e : l[i]? with
  | none => simp [U]
  | some x => exact h x (List.mem_of_getElem? e)
theorem pa_L {ops0 ops1 ops2 ops3 : List Int} (hU : ∀ x ∈ ops2, U x) {α : Type} (kx : Nat → List Leaf → Option α) (kr : List Leaf → Option α) :
    ∀ (m n : Nat) (s k h r now i : Int), PS s k h r now → 0 ≤ i → i + m = min (ops0.length : Int) 50 → m < n →
      PaceAll_9_L kx kr n ops0 ops1 ops2 ops3 s r k h now s k h r now i = kx 0 [.li ops0, .li ops1, .li ops2, .li ops3]
  | 0, n, s, k, h, r, now, i, p, hi, hm, hn => by
    obtain ⟨n, rfl⟩ : ∃ n', n = n' + 1 := ⟨n - 1, by omega⟩
    simp only [PaceAll_9_L, PaceAll_9_B, one_ev]
    by_cases hl : i < Int.ofNat ops0.length
    · rw [br_pos hl, br_neg (by simp at hl; omega)]
    · rw [br_neg hl]
  | m + 1, n, s, k, h, r, now, i, p, hi, hm, hn => by
    obtain ⟨n, rfl⟩ : ∃ n', n = n' + 1 := ⟨n - 1, by omega⟩
    have hlt : i < Int.ofNat ops0.length := by simp; omega
    have e3 : addI .i64 i 1 = i + 1 := addI_i (by unfold I63; omega)
    obtain ⟨A, hA⟩ : ∃ A, A = max 0 (min (ops3.getD i.toNat 0) 2305843009213693952) := ⟨_, rfl⟩
    have a0 : 0 ≤ A := by omega
    have a1 : A ≤ 4611686018427387904 := by omega
    have hX := getD_U hU i.toNat
    simp only [PaceAll_9_L, PaceAll_9_B, one_ev, minI_eq, maxI_eq, e3, ← hA]
    rw [br_pos hlt, br_pos (by omega), chk_pos ⟨hi, hlt⟩, chk_pos ⟨hi, hlt⟩]
    have step : ∀ (h' r' now' : Int), PS s k h' r' now' → PaceAll_9_L kx kr n ops0 ops1 ops2 ops3 s r' k h' now' s k h' r' now' (i + 1) = kx 0 [.li ops0, .li ops1, .li ops2, .li ops3] :=
      fun h' r' now' p' => pa_L hU kx kr m n s k h' r' now' (i + 1) p' (by omega) (by omega) (by omega)
    by_cases k0 : ops0.getD i.toNat 0 = 0
    · have p' := p.rate a0 a1 hX
      rw [br_eq k0, rate_t p a0 a1 hX]
      simp only [out_ev, un_i_ev, un_nil_ev]
      rw [rrate_t p a0 a1 hX]
      simp only [out_ev, un_i_ev, un_nil_ev, cap_t p'.s1 p'.s2 p'.k0 p'.k1 p'.r, rcap_t p'.s1 p'.s2 p'.k0 p'.k1 p'.r, bne_self_eq_false, br_f, chk_len]
      exact step _ _ _ p'
    rw [br_ne k0]
    by_cases k1 : ops0.getD i.toNat 0 = 1
    · have p' := p.get a0 a1
      rw [br_eq k1, may_t p a0 a1]
      simp only [out_ev, un_i_ev, un_b_ev, un_nil_ev]
      rw [rtake_t false p a0 a1]
      simp only [out_ev, un_i_ev, un_b_ev, un_nil_ev, Bool.false_eq_true, false_and, if_false, cap_t p'.s1 p'.s2 p'.k0 p'.k1 p'.r, rcap_t p'.s1 p'.s2 p'.k0 p'.k1 p'.r, bne_self_eq_false, beq_self_eq_true, Bool.not_true, br_f, chk_len]
      exact step _ _ _ p'
    rw [br_ne k1]
    by_cases k2 : ops0.getD i.toNat 0 = 2
    · have p' := take_PS (n := ops1.getD i.toNat 0) p a0 a1
      rw [br_eq k2, take_t p a0 a1]
      simp only [out_ev, un_i_ev, un_b_ev, un_nil_ev]
      rw [rtake_t true p a0 a1]
      simp only [out_ev, un_i_ev, un_b_ev, un_nil_ev, true_and, cap_t p'.s1 p'.s2 p'.k0 p'.k1 p'.r, rcap_t p'.s1 p'.s2 p'.k0 p'.k1 p'.r, bne_self_eq_false, beq_self_eq_true, Bool.not_true, br_f, chk_len]
      exact step _ _ _ p'
    · rw [br_ne k2, when_t p]
      simp only [out_ev, un_i_ev, un_b_ev, un_nil_ev]
      rw [rwhen_t p]
      simp only [out_ev, un_i_ev, un_b_ev, un_nil_ev, cap_t p.s1 p.s2 p.k0 p.k1 p.r, rcap_t p.s1 p.s2 p.k0 p.k1 p.r, bne_self_eq_false, br_f, chk_len]
      exact step _ _ _ p
theorem PaceAll_true {ops0 ops1 ops2 ops3 : List Int} {s tick : Int} (_ : ∀ x ∈ ops0, I63 x) (_ : ∀ x ∈ ops1, I63 x) (hU : ∀ x ∈ ops2, U x) (_ : ∀ x ∈ ops3, I63 x)
    (_ : ops1.length = ops0.length) (_ : ops2.length = ops0.length) (_ : ops3.length = ops0.length) : PaceAll ops0 ops1 ops2 ops3 s tick = some [.b true] := by
  unfold PaceAll PaceAll_d
  by_cases h1 : s < 1
  · rw [br_pos h1, br_pos h1]
  rw [br_neg h1]
  by_cases h2 : s > 1400
  · rw [br_pos h2, br_neg h1, br_pos h2]
  rw [br_neg h2]
  by_cases h3 : tick < 0
  · rw [br_pos h3, br_neg h1, br_neg h2, br_pos h3]
  rw [br_neg h3]
  by_cases h4 : tick > 1000000
  · rw [br_pos h4, br_neg h1, br_neg h2, br_neg h3, br_pos h4]
  rw [br_neg h4]
  have e1 : wrapI .u64 s = s := by rw [wrapI_u]; omega
  have e2 : wrapI .u64 tick = tick := by rw [wrapI_u]; omega
  simp only [one_ev, e1, e2]
  rw [br_neg h1, br_neg h2, br_neg h3, br_neg h4]
  rw [pa_L hU _ _ (min (ops0.length : Int) 50).toNat top s tick 0 0 0 0 (PS.new (by omega) (by omega) (by omega) (by omega)) (by omega) (by omega) (by unfold top; omega)]
  simp only [beq00, br_t, un_li_ev, un_nil_ev, chk_T, chk_len]
end Go.Sx.T

