import Derived.Test.YtopcljhdejindaaGreatDoorYIOSpec
import Derived.Test.YtopcljhdejindaaGreatDoorPlIv
set_option linter.all false
namespace Go.Sx.T
open Go Go.Sx
theorem satM_mono {a b c : Int} (hc : 0 ≤ c) (h : a ≤ b) : satM a c ≤ satM b c := by
  have := Int.mul_le_mul_of_nonneg_right h hc
  unfold satM; omega
theorem satA_mono {a b c d : Int} (h : a ≤ b) (k : c ≤ d) : satA a c ≤ satA b d := by unfold satA; omega
theorem sg_mono {l l' : List Int} {n : Nat} (h : ∀ j, j < n → l.getD j 0 ≤ l'.getD j 0) : ∀ (m i : Nat) (a b a' b' w : Int), i + m ≤ n → a ≤ a' → b ≤ b' →
    (sg l n m i a b w).1 ≤ (sg l' n m i a' b' w).1 ∧ (sg l n m i a b w).2.1 ≤ (sg l' n m i a' b' w).2.1 ∧ (sg l n m i a b w).2.2 = (sg l' n m i a' b' w).2.2
  | 0, _, _, _, _, _, _, _, ha, hb => ⟨ha, hb, rfl⟩
  | m + 1, i, a, b, a', b', w, hi, ha, hb => by
    have hx := h i (by omega)
    simp only [sg]
    refine sg_mono h m (i + 1) _ _ _ _ _ (by omega) ?_ (satA_mono hb (satM_mono (wt_b i).1 hx))
    split
    · exact satA_mono ha (satM_mono (wt_b (i + 1)).1 hx)
    · exact ha
theorem rate8_anti {l l' : List Int} {o o' : Int} (hl : ∀ x ∈ l, U x) (ho : 0 ≤ o) (hc : cn8 l = cn8 l') (h : ∀ j, j < cn8 l → l.getD j 0 ≤ l'.getD j 0) (hoo : o ≤ o') (hU : U o) : rate8 l' o' ≤ rate8 l o := by
  have hm := sg_mono h (cn8 l) 0 (satM o 5) 0 (satM o' 5) 0 0 (by omega) (satM_mono (by omega) hoo) (by omega)
  have hAB := sAB_U hl hU
  have hw := sW_b l o
  have e : sW l' o' = sW l o := by unfold sW; rw [← hc]; exact hm.2.2.symm
  have a1 : sA l o ≤ sA l' o' := by unfold sA; rw [← hc]; exact hm.1
  have b1 : sB l o ≤ sB l' o' := by unfold sB; rw [← hc]; exact hm.2.1
  have hc8 := cn8_le l
  unfold rate8
  rw [e]
  by_cases h0 : sW l o = 0
  · rw [if_pos h0, if_pos h0]; omega
  · rw [if_neg h0, if_neg h0]
    obtain ⟨x, hx⟩ : ∃ x, x = max (sA l o) (sB l o) := ⟨_, rfl⟩
    obtain ⟨y, hy⟩ : ∃ y, y = max (sA l' o') (sB l' o') := ⟨_, rfl⟩
    rw [← hx, ← hy]
    have hx0 : 0 ≤ x := by have := hAB.1.1; omega
    have hxy : x ≤ y := by omega
    unfold mdI
    by_cases hz : x = 0
    · rw [if_pos hz]; omega
    · rw [if_neg hz, if_neg (by omega)]
      have hp := Int.mul_nonneg (show 0 ≤ sW l o by omega) (show (0 : Int) ≤ 4294967296 by decide)
      have : sW l o * 4294967296 / y ≤ sW l o * 4294967296 / x := by
        rw [Int.le_ediv_iff_mul_le (by omega)]
        have h1 := Int.ediv_mul_le (sW l o * 4294967296) (show y ≠ 0 by omega)
        have h2 := Int.ediv_nonneg hp (show 0 ≤ y by omega)
        have h3 := Int.mul_le_mul_of_nonneg_left hxy h2
        omega
      omega
theorem ref_Add_s {a b : Int} (ha : U a) (hb : U b) : ref_Add a b = some [.i (satA a b)] := by
  have e : subI .u64 18446744073709551615 a = 18446744073709551615 - a := by rw [subI_u]; unfold U at ha; omega
  unfold ref_Add satA M64
  unfold U at ha hb
  simp only [one_ev, e]
  by_cases h : b > 18446744073709551615 - a
  · rw [br_pos h, Int.min_eq_right (by omega)]
  · rw [br_neg h, addI_u, Int.min_eq_left (by omega), show (a + b) % 18446744073709551616 = a + b by omega]
theorem IvalOrder_true {closed : List Int} {o i more : Int} (hl : ∀ x ∈ closed, U x) (ho : U o) (hm : U more) : IvalOrder closed o i more = some [.b true] := by
  unfold IvalOrder
  obtain ⟨K, hK⟩ : ∃ K, K = min (Int.ofNat closed.length) 10 := ⟨_, rfl⟩
  have hK1 : K ≤ Int.ofNat closed.length := by omega
  have hK0 : 0 ≤ K := by simp at hK; omega
  simp only [one_ev, minI_eq, ← hK]
  have c0 : condSl (rlOf [[Col.int .u64 closed]] 0) none (some K) = true := by
    simp [condSl, rlOf, colsN, Col.len]; simp at hK1; omega
  rw [c0, chk_t]
  by_cases h0 : K = 0
  · rw [br_eq h0, show (decide ((0 : Int) = Int.ofNat 0) && true) = true by decide, chk_t, ival_Rate_t (by simp) ho]
    simp only [out_ev, un_i_ev, un_nil_ev]
    rfl
  · rw [br_ne h0]
    obtain ⟨N, hN0, hN1, eN⟩ := rem_N (m := K) (by omega) (by omega) i
    obtain ⟨L, hL⟩ : ∃ L, L = List.take K.toNat (List.drop (Int.toNat (Int.ofNat 0)) closed) := ⟨_, rfl⟩
    have hLl : (L.length : Int) = K := by rw [hL]; simp at hK1 ⊢; omega
    have hLU : ∀ x ∈ L, U x := fun x hx => hl x (List.mem_of_mem_drop (List.mem_of_mem_take (hL ▸ hx)))
    have gU := getD_U hLU N.toNat
    obtain ⟨s, hs⟩ : ∃ s, s = satA (L.getD N.toNat 0) more := ⟨_, rfl⟩
    have hsU : U s := hs ▸ satA_U gU.1 hm.1
    have hsge : L.getD N.toNat 0 ≤ s := by rw [hs]; unfold U at gU hm; unfold satA M64; omega
    have hSU : ∀ x ∈ L.set N.toNat s, U x := fun x hx => by
      rcases List.mem_or_eq_of_mem_set hx with h | h
      · exact hLU x h
      · exact h ▸ hsU
    have hSl : ((L.set N.toNat s).length : Int) = K := by rw [List.length_set]; exact hLl
    have hc8 : cn8 L = cn8 (L.set N.toNat s) := by unfold cn8; rw [List.length_set]
    have hoU : U (satA o more) := satA_U ho.1 hm.1
    have hge : o ≤ satA o more := by unfold U at ho hm; unfold satA M64; omega
    have gset : ∀ j, (L.set N.toNat s).getD j 0 = if N.toNat = j then (if j < L.length then s else 0) else L.getD j 0 := by
      intro j
      rw [List.getD_eq_getElem?_getD, List.getElem?_set]
      split
      · rename_i e; subst e; split <;> rfl
      · rw [List.getD_eq_getElem?_getD]
    have r1 : rate8 (L.set N.toNat s) o ≤ rate8 L o := rate8_anti hLU ho.1 hc8 (fun j _ => by
      rw [gset]; split
      · rename_i e; subst e; rw [if_pos (by omega)]; exact hsge
      · exact Int.le_refl _) (Int.le_refl _) ho
    have r2 : rate8 L (satA o more) ≤ rate8 L o := rate8_anti hLU ho.1 rfl (fun j _ => Int.le_refl _) hge ho
    simp only [← hL, eN, ref_Add_s gU hm, ← hs, ref_Add_s ho hm, ival_Rate_t hLU ho, ival_Rate_t hSU ho, ival_Rate_t hLU hoU, out_ev, un_i_ev, un_nil_ev]
    have d1 : (decide (Int.ofNat 0 + K ≤ Int.ofNat closed.length) && decide (K * ↑8 ≤ 140737488355328 ∧ K ≤ 4611686018427387904)) = true := by
      simp at hK1 hK ⊢; omega
    have d2 : decide (Int.ofNat 0 + K ≤ Int.ofNat closed.length) = true := by simp at hK1 ⊢; omega
    have d3 : (decide (K = Int.ofNat L.length) && true) = true := by simp; omega
    have d4 : (decide (K = Int.ofNat (L.set N.toNat s).length) && true) = true := by simp; omega
    have d5 : decide (0 ≤ N ∧ N < K) = true := by simp; omega
    rw [d1, chk_t, chk_pos h0, chk_pos h0]
    simp only [d2, d3, d4, d5, chk_t]
    rw [br_pos r1, br_pos r2]
    by_cases h8 : N < 8
    · rw [br_pos h8]
    · rw [br_neg h8]
      have r3 : rate8 L o ≤ rate8 (L.set N.toNat s) o := rate8_anti hSU ho.1 hc8.symm (fun j hj => by
        rw [gset, if_neg (by have := cn8_le (L.set N.toNat s); omega)]; exact Int.le_refl _) (Int.le_refl _) ho
      rw [show rate8 L o = rate8 (L.set N.toNat s) o by omega]
      simp
end Go.Sx.T

