import Derived.Test.YtfcaemjklnelhaaGreatDoorPlVec
set_option linter.all false
namespace Go.Sx.T
open Go Go.Sx
theorem state_n {s : Int} (h : ¬ St s) : vec_state s = some [.b false] := by
  unfold vec_state
  have h0 : s ≠ 0 := fun x => h (.inl x)
  have h1 : s ≠ 1 := fun x => h (.inr (.inl x))
  have h3 : s ≠ 3 := fun x => h (.inr (.inr x))
  rw [br_ne h0, br_ne h1, beq_eq_false_iff_ne.2 h3]
theorem CsOk.nil : CsOk [] [] := ⟨rfl, by simp, by simp⟩
theorem CsOk.consD {a b : List Int} {j : Nat} (hl : b.length = a.length) (hj : j < a.length) (h : CsOk (a.drop (j + 1)) (b.drop (j + 1))) (hs : St (a.getD j 0)) (hr : 1 ≤ b.getD j 0 ∧ b.getD j 0 ≤ 64) : CsOk (a.drop j) (b.drop j) := by
  rw [drop_getD hj, drop_getD (show j < b.length by omega)]
  exact ⟨by simp [hl], fun x hx => by
    rcases List.mem_cons.1 hx with rfl | hx
    · exact hs
    · exact h.st x hx, fun x hx => by
    rcases List.mem_cons.1 hx with rfl | hx
    · exact hr
    · exact h.run x hx⟩
theorem may_D {a b : List Int} (hl : b.length = a.length) : ∀ (n : Nat) (j t : Int), 0 ≤ j → j ≤ t → t ≤ 1000 → 1001 - t ≤ n → 
    ∃ r : Bool, (r = true → CsOk (a.drop j.toNat) (b.drop j.toNat) ∧ t + (spr (a.drop j.toNat) (b.drop j.toNat)).length ≤ 1000) ∧ ∀ {α : Type} (kx : Nat → List Leaf → Option α) (kr : List Leaf → Option α), vec_May_3_L kx kr n a b j t (Int.ofNat a.length) = bif r then kx 0 [.li a, .li b] else kr [.li a, .li b, .b false]
  | 0, j, t, hj, ht, ht1, hn => by omega
  | n + 1, j, t, hj, ht, ht1, hn => by
    by_cases hlt : j < (a.length : Int)
    · have hlt' : j < Int.ofNat a.length := hlt
      have e3 : addI .i64 j 1 = j + 1 := addI_i (by unfold I63; omega)
      have no : (∀ {α : Type} (kx : Nat → List Leaf → Option α) (kr : List Leaf → Option α), vec_May_3_L kx kr (n + 1) a b j t (Int.ofNat a.length) = kr [.li a, .li b, .b false]) → ∃ r : Bool, (r = true → CsOk (a.drop j.toNat) (b.drop j.toNat) ∧ t + (spr (a.drop j.toNat) (b.drop j.toNat)).length ≤ 1000) ∧ ∀ {α : Type} (kx : Nat → List Leaf → Option α) (kr : List Leaf → Option α), vec_May_3_L kx kr (n + 1) a b j t (Int.ofNat a.length) = bif r then kx 0 [.li a, .li b] else kr [.li a, .li b, .b false] :=
        fun h => ⟨false, fun h => (by cases h), fun kx kr => h kx kr⟩
      by_cases hs : St (a.getD j.toNat 0)
      · by_cases h1 : b.getD j.toNat 0 < 1
        · refine no fun kx kr => ?_
          simp only [vec_May_3_L, vec_May_3_B]
          rw [br_pos hlt', chk_pos ⟨hj, hlt'⟩, chk_pos ⟨hj, hlt'⟩, state_t hs]
          simp only [out_ev, un_b_ev, un_nil_ev, Bool.not_true, br_f]
          rw [br_pos h1]
        · by_cases h2 : b.getD j.toNat 0 > 64
          · refine no fun kx kr => ?_
            simp only [vec_May_3_L, vec_May_3_B]
            rw [br_pos hlt', chk_pos ⟨hj, hlt'⟩, chk_pos ⟨hj, hlt'⟩, state_t hs]
            simp only [out_ev, un_b_ev, un_nil_ev, Bool.not_true, br_f]
            rw [br_neg h1, br_pos h2]
          · have e4 : addI .i64 t (b.getD j.toNat 0) = t + b.getD j.toNat 0 := addI_i (by unfold I63; omega)
            by_cases h3 : t + b.getD j.toNat 0 > 1000
            · refine no fun kx kr => ?_
              simp only [vec_May_3_L, vec_May_3_B, one_ev, e4]
              rw [br_pos hlt', chk_pos ⟨hj, hlt'⟩, chk_pos ⟨hj, hlt'⟩, state_t hs]
              simp only [out_ev, un_b_ev, un_nil_ev, Bool.not_true, br_f]
              rw [br_neg h1, br_neg h2, br_pos h3]
            · obtain ⟨r, g1, g2⟩ := may_D hl n (j + 1) (t + b.getD j.toNat 0) (by omega) (by omega) (by omega) (by omega)
              refine ⟨r, fun hr => ?_, fun kx kr => ?_⟩
              · obtain ⟨c1, c2⟩ := g1 hr
                rw [show (j + 1).toNat = j.toNat + 1 by omega] at c1 c2
                refine ⟨CsOk.consD hl (by omega) c1 hs (by omega), ?_⟩
                rw [spr_drop hl (by omega), List.length_append, List.length_replicate]
                omega
              · simp only [vec_May_3_L, vec_May_3_B, one_ev, e3, e4]
                rw [br_pos hlt', chk_pos ⟨hj, hlt'⟩, chk_pos ⟨hj, hlt'⟩, state_t hs]
                simp only [out_ev, un_b_ev, un_nil_ev, Bool.not_true, br_f]
                rw [br_neg h1, br_neg h2, br_neg h3]
                simp only [chk_T]
                exact g2 kx kr
      · refine no fun kx kr => ?_
        simp only [vec_May_3_L, vec_May_3_B]
        rw [br_pos hlt', chk_pos ⟨hj, hlt'⟩, chk_pos ⟨hj, hlt'⟩, state_n hs]
        simp only [out_ev, un_b_ev, un_nil_ev, Bool.not_false, br_t]
    · refine ⟨true, fun _ => ?_, fun kx kr => ?_⟩
      · rw [List.drop_eq_nil_of_le (by omega), List.drop_eq_nil_of_le (by omega)]
        exact ⟨CsOk.nil, by simp [spr]; omega⟩
      · simp only [vec_May_3_L, vec_May_3_B]
        rw [br_neg (show ¬ j < Int.ofNat a.length from hlt)]
        rfl
theorem may_dec {a b : List Int} (hl : b.length = a.length) : vec_May a b = some [.b false] ∨ (vec_May a b = some [.b true] ∧ CsOk a b ∧ (spr a b).length ≤ 1000) := by
  obtain ⟨r, h1, h2⟩ := may_D hl top 0 0 (by omega) (by omega) (by omega) (by
    have : top = 1000000000000000000000000 := rfl
    omega)
  have : vec_May a b = some [.b r] := by
    unfold vec_May vec_May_d
    simp only [one_ev, chk_T]
    rw [h2]
    cases r
    · simp only [cond_false, un_li_ev, un_b_ev, un_nil_ev]
    · simp only [cond_true, beq00, br_t, un_li_ev, un_nil_ev]
  cases r
  · exact .inl this
  · obtain ⟨c1, c2⟩ := h1 rfl
    simp only [Int.toNat_zero, List.drop_zero] at c1 c2
    exact .inr ⟨this, c1, by omega⟩
end Go.Sx.T

