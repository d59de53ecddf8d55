import Derived.Test.YtopcljhdejindaaGreatDoorPlIvM
import Derived.Test.YtopcljhdejindaaGreatDoorYIASpec
set_option linter.all false
namespace Go.Sx.T
open Go Go.Sx
theorem ref_Add_s' {a b : Int} (ha : U a) (hb : U b) : ref_Add a b = some [.i (satA a b)] := by
  have e : subI .u64 18446744073709551615 a = 18446744073709551615 - a := by rw [subI_u]; unfold U at ha; omega
  unfold ref_Add satA M64
  unfold U at ha hb
  simp only [one_ev, e]
  by_cases h : b > 18446744073709551615 - a
  · rw [br_pos h, Int.min_eq_right (by omega)]
  · rw [br_neg h, addI_u, Int.min_eq_left (by omega), show (a + b) % 18446744073709551616 = a + b by omega]
theorem ref_Mul_s {a b : Int} (ha : U a) (hb : U b) : ref_Mul a b = some [.i (satM a b)] := by
  unfold ref_Mul satM M64
  simp only [ref_Wide_t ha hb, out_ev, un_i_ev, un_nil_ev]
  have h0 : 0 ≤ a * b := Int.mul_nonneg ha.1 hb.1
  by_cases h : a * b / 18446744073709551616 > 0
  · rw [br_pos h, Int.min_eq_right (by omega)]
  · rw [br_neg h, Int.min_eq_left (by omega), show a * b % 18446744073709551616 = a * b by omega]
theorem weigh5 {l : List Int} (hl : ∀ x ∈ l, U x) {n : Nat} (hn : n ≤ 8) (hnl : n ≤ l.length) :
    ∀ (m fuel i : Nat) (a b w : Int), m < fuel → i + m = n → U a → U b → 0 ≤ w → w ≤ 5 * i → ∀ {α : Type} (kx : Nat → List Leaf → Option α) (kr : List Leaf → Option α),
      ref_Weigh_5_L kx kr fuel l 5 5 5 5 4 3 2 1 (i : Int) a (n : Int) b w = kx 0 [.li l, .i (sg l n m i a b w).2.1, .i (sg l n m i a b w).1, .i (sg l n m i a b w).2.2] := by
  intro m
  induction m with
  | zero =>
    intro fuel i a b w hf hi ha hb hw0 hw1 α kx kr
    obtain ⟨f, rfl⟩ : ∃ f, fuel = f + 1 := ⟨fuel - 1, by omega⟩
    simp only [ref_Weigh_5_L, ref_Weigh_5_B]
    rw [br_neg (by omega)]
    rfl
  | succ m ih =>
    intro fuel i a b w hf hi ha hb hw0 hw1 α kx kr
    obtain ⟨f, rfl⟩ : ∃ f, fuel = f + 1 := ⟨fuel - 1, by omega⟩
    have hx := getD_U hl i
    have hwi := wt_b i
    have hwi1 := wt_b (i + 1)
    have e1 : addI .u64 w (wt i) = w + wt i := by rw [addI_u]; omega
    have e2 : addI .i64 (i : Int) 1 = ((i + 1 : Nat) : Int) := by rw [addI_i (show I63 ((i : Int) + 1) by unfold I63; omega)]; simp
    have e3 : subI .i64 (n : Int) 1 = (n : Int) - 1 := subI_i (by unfold I63; omega)
    have wU : ∀ j, U (wt j) := fun j => by have := wt_b j; unfold U; omega
    have g0 : ∀ j : Nat, List.getD [5, 5, 5, 5, 4, 3, 2, 1] (Int.toNat (j : Int)) 0 = wt j := fun j => by rw [Int.toNat_natCast]; rfl
    have g1 : ∀ j : Nat, List.getD [5, 5, 5, 5, 4, 3, 2, 1] j 0 = wt j := fun _ => rfl
    have c8 : decide (0 ≤ (i : Int) ∧ (i : Int) < 8) = true := by simp; omega
    have c8' : decide (0 ≤ (i : Int) ∧ (i : Int) < ↑(List.length [(5 : Int), 5, 5, 5, 4, 3, 2, 1])) = true := by simp; omega
    have cl : decide (0 ≤ (i : Int) ∧ (i : Int) < Int.ofNat l.length) = true := by simp; omega
    simp only [ref_Weigh_5_L, ref_Weigh_5_B]
    rw [br_pos (by omega), c8, chk_t, c8', chk_t]
    simp only [g0, g1, cl, chk_t, c8, c8', one_ev, Int.toNat_natCast, ref_Mul_s hx (wU i), out_ev, un_i_ev, un_nil_ev, ref_Add_s' hb (satM_U hx.1 hwi.1), e1, e2, e3, chk_len, chk_T]
    unfold sg
    by_cases hlt : i + 1 < n
    · have d8 : decide (0 ≤ ((i + 1 : Nat) : Int) ∧ ((i + 1 : Nat) : Int) < 8) = true := by simp; omega
      have d8' : decide (0 ≤ ((i + 1 : Nat) : Int) ∧ ((i + 1 : Nat) : Int) < ↑(List.length [(5 : Int), 5, 5, 5, 4, 3, 2, 1])) = true := by simp; omega
      rw [br_pos (by omega), if_pos hlt, d8, chk_t, d8', chk_t]
      simp only [Int.toNat_natCast, ref_Mul_s hx (wU (i + 1)), out_ev, un_i_ev, un_nil_ev, ref_Add_s' ha (satM_U hx.1 hwi1.1), show ∀ j, List.getD [5, 5, 5, 5, 4, 3, 2, 1] j 0 = wt j from fun _ => rfl]
      exact ih f (i + 1) _ _ _ (by omega) (by omega) (satA_U ha.1 (satM_U hx.1 hwi1.1).1) (satA_U hb.1 (satM_U hx.1 hwi.1).1) (by omega) (by omega) kx kr
    · rw [br_neg (by omega), if_neg hlt]
      exact ih f (i + 1) _ _ _ (by omega) (by omega) ha (satA_U hb.1 (satM_U hx.1 hwi.1).1) (by omega) (by omega) kx kr
theorem ref_Weigh_t {l : List Int} {o : Int} (hl : ∀ x ∈ l, U x) (ho : U o) : ref_Weigh l o = some [.i (sW l o), .i (max (sA l o) (sB l o))] := by
  unfold ref_Weigh ref_Weigh_d
  have e0 : min (Int.ofNat l.length) 8 = (cn8 l : Int) := by unfold cn8; simp; omega
  simp only [one_ev, minI_eq, e0, show List.getD [(5 : Int), 5, 5, 5, 4, 3, 2, 1] (Int.toNat 0) 0 = 5 from rfl, ref_Mul_s ho (show U 5 by unfold U; omega), out_ev, un_i_ev, un_nil_ev, chk_len]
  have h : ∀ {α : Type} (kx : Nat → List Leaf → Option α) (kr : List Leaf → Option α), ref_Weigh_5_L kx kr top l 5 5 5 5 4 3 2 1 0 (satM o 5) (cn8 l) 0 0 = kx 0 [.li l, .i (sB l o), .i (sA l o), .i (sW l o)] :=
    fun kx kr => weigh5 hl (n := cn8 l) (by unfold cn8; omega) (by unfold cn8; omega) (cn8 l) top 0 (satM o 5) 0 0 (by unfold top cn8; omega) (by omega) (satM_U ho.1 (by omega)) (by unfold U; omega) (by omega) (by omega) kx kr
  rw [h]
  simp only [beq00, br_t, un_li_ev, un_i_ev, un_nil_ev, one_ev, maxI_eq, chk_T]
theorem ref_Mean_t {l : List Int} {o : Int} (hl : ∀ x ∈ l, U x) (ho : U o) : ref_Mean l o = some [.i (mean8 l o)] := by
  have hU := sAB_U hl ho
  have hw := sW_b l o
  unfold ref_Mean
  simp only [chk_len, chk_T, ref_Weigh_t hl ho, out_ev, un_i_ev, un_nil_ev, one_ev]
  unfold mean8
  by_cases h : sW l o = 0
  · rw [br_eq h, if_pos h]
  · rw [br_ne h, if_neg h, chk_pos h, quoI_u (by have := hU.1; have := hU.2; unfold U at *; omega) (by omega)]
theorem ref_LossRate_t {l : List Int} {o : Int} (hl : ∀ x ∈ l, U x) (ho : U o) : ref_LossRate l o = some [.i (rate8 l o)] := by
  have hU := sAB_U hl ho
  have hw := sW_b l o
  have h8 := cn8_le l
  unfold ref_LossRate
  simp only [chk_len, chk_T, ref_Weigh_t hl ho, out_ev, un_i_ev, un_nil_ev, one_ev]
  unfold rate8
  by_cases h : sW l o = 0
  · rw [br_eq h, if_pos h]
  · rw [br_ne h, if_neg h, ref_MulDiv_t (show U (sW l o) by unfold U; omega) (show U 4294967296 by unfold U; omega) (by have := hU.1; have := hU.2; unfold U at *; omega)]
    simp only [out_ev, un_i_ev, un_nil_ev, minI_eq]
theorem ival_Weight_oob {i : Int} (h : i < 0 ∨ 8 ≤ i) : ival_Weight i = some [.i 0] := by
  unfold ival_Weight
  simp only [one_ev]
  by_cases h0 : i < 0
  · rw [br_pos h0]
  · rw [br_neg h0, br_pos (by omega)]
theorem IvalAll_true {closed : List Int} {o i : Int} (hl : ∀ x ∈ closed, U x) (ho : U o) : IvalAll closed o i = some [.b true] := by
  unfold IvalAll
  obtain ⟨K, hK⟩ : ∃ K, K = min (Int.ofNat closed.length) 12 := ⟨_, rfl⟩
  have hK1 : K ≤ Int.ofNat closed.length := by omega
  have hK0 : 0 ≤ K := by simp at hK; omega
  simp only [one_ev, minI_eq, ← hK]
  have c0 : condSl (rlOf [[Col.int .u64 closed]] 0) none (some K) = true := by
    simp [condSl, rlOf, colsN, Col.len]; simp at hK1; omega
  rw [c0, chk_t]
  obtain ⟨L, hL⟩ : ∃ L, L = List.take K.toNat (List.drop (Int.toNat (Int.ofNat 0)) closed) := ⟨_, rfl⟩
  have hLl : (L.length : Int) = K := by rw [hL]; simp at hK1 ⊢; omega
  have hLU : ∀ x ∈ L, U x := fun x hx => hl x (List.mem_of_mem_drop (List.mem_of_mem_take (hL ▸ hx)))
  have d2 : decide (Int.ofNat 0 + K ≤ Int.ofNat closed.length) = true := by simp at hK1 ⊢; omega
  have d3 : (decide (K = Int.ofNat L.length) && true) = true := by simp; omega
  have r1 : rate8 L o ≤ 4294967296 := by unfold rate8; split <;> omega
  have r0 : ¬ K > 0 → rate8 L o = 0 := fun h => by
    have hw := sW_b L o
    have : cn8 L = 0 := by unfold cn8; omega
    unfold rate8
    rw [if_pos (by omega)]
  have fin : br (decide (rate8 L o ≤ 4294967296)) (br (decide (K > 0)) (some [Leaf.b true]) (some [Leaf.b (rate8 L o == 0)])) (some [Leaf.b false]) = some [Leaf.b true] := by
    rw [br_pos r1]
    by_cases h : K > 0
    · rw [br_pos h]
    · rw [br_neg h, r0 h]; rfl
  simp only [← hL, d2, d3, chk_t, ival_Rate_t hLU ho, ival_Mean_t hLU ho, ref_Mean_t hLU ho, ref_LossRate_t hLU ho, out_ev, un_i_ev, un_nil_ev, beq_self_eq_true, br_t, fin]
  by_cases h0 : i ≥ 0
  · rw [br_pos h0]
    by_cases h8 : i < 8
    · have e : ival_Weight i = some [.i (wt i.toNat)] := by
        have := ival_Weight_t i.toNat
        rwa [Int.toNat_of_nonneg h0] at this
      rw [br_pos h8, chk_pos (by omega), chk_pos (by omega), e]
      simp only [out_ev, un_i_ev, un_nil_ev]
      rw [show (wt i.toNat == List.getD [5, 5, 5, 5, 4, 3, 2, 1] i.toNat 0) = true from beq_self_eq_true (wt i.toNat), br_t]
    · rw [br_neg h8, ival_Weight_oob (by omega)]
      simp only [out_ev, un_i_ev, un_nil_ev, beq_self_eq_true, br_t]
  · rw [br_neg h0, ival_Weight_oob (by omega)]
    simp only [out_ev, un_i_ev, un_nil_ev, beq_self_eq_true, br_t]
end Go.Sx.T

