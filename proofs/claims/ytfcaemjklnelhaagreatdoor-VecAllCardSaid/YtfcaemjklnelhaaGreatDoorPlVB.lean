import Derived.Test.YtfcaemjklnelhaaGreatDoorPlPt
import Derived.Test.YtfcaemjklnelhaaGreatDoorPlOf
import Derived.Test.YtfcaemjklnelhaaGreatDoorYVASpec
set_option linter.all false
namespace Go.Sx.T
open Go Go.Sx
theorem rstate_t {s : Int} (h : St s) : ref_State s = some [.b true] := by
  rcases h with rfl | rfl | rfl <;> rfl
theorem rstate_n {s : Int} (h : ¬ St s) : ref_State s = some [.b false] := by
  unfold St at h
  unfold ref_State
  rw [br_ne (by omega), br_ne (by omega)]
  have : (s == 3) = false := by rw [beq_eq_false_iff_ne]; omega
  rw [this]
theorem bif_t {α : Type} (x y : α) : (bif true then x else y) = x := rfl
theorem bif_f {α : Type} (x y : α) : (bif false then x else y) = y := rfl
/-- Both tell the same of cells. -/
theorem may2_D {a b : List Int} (hl : b.length = a.length) : ∀ (n : Nat) (j t : Int), 0 ≤ j → j ≤ t → t ≤ 1000 → 1001 - t ≤ n →
    ∃ r : Bool, (∀ {α : Type} (kx : Nat → List Leaf → Option α) (kr : List Leaf → Option α), vec_May_3_L kx kr n a b j t (Int.ofNat a.length) = bif r then kx 0 [.li a, .li b] else kr [.li a, .li b, .b false]) ∧
      (∀ {α : Type} (kx : Nat → List Leaf → Option α) (kr : List Leaf → Option α), ref_MayCells_3_L kx kr n a b j t = bif r then kx 0 [.li a, .li b] else kr [.li a, .li b, .b false])
  | 0, j, t, hj, ht, ht1, hn => by omega
  | n + 1, j, t, hj, ht, ht1, hn => by
    by_cases hlt : j < (a.length : Int)
    · have hlt' : j < Int.ofNat a.length := hlt
      have hin : (0 : Int) ≤ j ∧ j < Int.ofNat a.length := ⟨hj, hlt'⟩
      have e3 : addI .i64 j 1 = j + 1 := addI_i (by unfold I63; omega)
      by_cases hs : St (a.getD j.toNat 0)
      · by_cases h1 : b.getD j.toNat 0 < 1
        · refine ⟨false, fun kx kr => ?_, fun kx kr => ?_⟩
          · simp only [vec_May_3_L, vec_May_3_B]
            rw [br_pos hlt']
            simp only [chk_pos hin, state_t hs, out_ev, un_b_ev, un_nil_ev, Bool.not_true, br_f]
            rw [br_pos h1, bif_f]
          · simp only [ref_MayCells_3_L, ref_MayCells_3_B, one_ev]
            rw [br_pos hlt']
            simp only [chk_pos hin, rstate_t hs, out_ev, un_b_ev, un_nil_ev, Bool.not_true, br_f]
            rw [br_pos h1, bif_f]
        · by_cases h2 : b.getD j.toNat 0 > 64
          · refine ⟨false, fun kx kr => ?_, fun kx kr => ?_⟩
            · simp only [vec_May_3_L, vec_May_3_B]
              rw [br_pos hlt']
              simp only [chk_pos hin, state_t hs, out_ev, un_b_ev, un_nil_ev, Bool.not_true, br_f]
              rw [br_neg h1, br_pos h2, bif_f]
            · simp only [ref_MayCells_3_L, ref_MayCells_3_B, one_ev]
              rw [br_pos hlt']
              simp only [chk_pos hin, rstate_t hs, out_ev, un_b_ev, un_nil_ev, Bool.not_true, br_f]
              rw [br_neg h1, br_pos h2, bif_f]
          · have e4 : addI .i64 t (b.getD j.toNat 0) = t + b.getD j.toNat 0 := addI_i (by unfold I63; omega)
            have e5 : subI .i64 1000 (b.getD j.toNat 0) = 1000 - b.getD j.toNat 0 := subI_i (by unfold I63; omega)
            by_cases h3 : t + b.getD j.toNat 0 > 1000
            · refine ⟨false, fun kx kr => ?_, fun kx kr => ?_⟩
              · simp only [vec_May_3_L, vec_May_3_B, one_ev, e4]
                rw [br_pos hlt']
                simp only [chk_pos hin, state_t hs, out_ev, un_b_ev, un_nil_ev, Bool.not_true, br_f]
                rw [br_neg h1, br_neg h2, br_pos h3, bif_f]
              · simp only [ref_MayCells_3_L, ref_MayCells_3_B, one_ev, e5]
                rw [br_pos hlt']
                simp only [chk_pos hin, rstate_t hs, out_ev, un_b_ev, un_nil_ev, Bool.not_true, br_f]
                rw [br_neg h1, br_neg h2, br_pos (by omega), bif_f]
            · obtain ⟨r, g1, g2⟩ := may2_D hl n (j + 1) (t + b.getD j.toNat 0) (by omega) (by omega) (by omega) (by omega)
              refine ⟨r, fun kx kr => ?_, fun kx kr => ?_⟩
              · simp only [vec_May_3_L, vec_May_3_B, one_ev, e3, e4]
                rw [br_pos hlt']
                simp only [chk_pos hin, state_t hs, out_ev, un_b_ev, un_nil_ev, Bool.not_true, br_f]
                rw [br_neg h1, br_neg h2, br_neg h3]
                simp only [chk_T]
                exact g1 kx kr
              · simp only [ref_MayCells_3_L, ref_MayCells_3_B, one_ev, e3, e4, e5]
                rw [br_pos hlt']
                simp only [chk_pos hin, rstate_t hs, out_ev, un_b_ev, un_nil_ev, Bool.not_true, br_f]
                rw [br_neg h1, br_neg h2, br_neg (by omega)]
                simp only [chk_pos hin, chk_T]
                exact g2 kx kr
      · refine ⟨false, fun kx kr => ?_, fun kx kr => ?_⟩
        · simp only [vec_May_3_L, vec_May_3_B]
          rw [br_pos hlt']
          simp only [chk_pos hin, state_n hs, out_ev, un_b_ev, un_nil_ev, Bool.not_false, br_t, bif_f]
        · simp only [ref_MayCells_3_L, ref_MayCells_3_B, one_ev]
          rw [br_pos hlt']
          simp only [chk_pos hin, rstate_n hs, out_ev, un_b_ev, un_nil_ev, Bool.not_false, br_t, bif_f]
    · refine ⟨true, fun kx kr => ?_, fun kx kr => ?_⟩
      · simp only [vec_May_3_L, vec_May_3_B]
        rw [br_neg (show ¬ j < Int.ofNat a.length from hlt)]
        rfl
      · simp only [ref_MayCells_3_L, ref_MayCells_3_B, one_ev]
        rw [br_neg (show ¬ j < Int.ofNat a.length from hlt)]
        rfl
theorem may_same {a b : List Int} (hl : b.length = a.length) : ref_MayCells a b = vec_May a b := by
  obtain ⟨r, h1, h2⟩ := may2_D hl top 0 0 (by omega) (by omega) (by omega) (by rw [top_eq]; omega)
  unfold vec_May vec_May_d ref_MayCells ref_MayCells_d
  simp only [one_ev, chk_T]
  rw [h1, h2]
theorem may_cases {a b : List Int} (hl : b.length = a.length) : (vec_May a b = some [.b false] ∧ ref_MayCells a b = some [.b false]) ∨ (vec_May a b = some [.b true] ∧ ref_MayCells a b = some [.b true] ∧ CsOk a b ∧ (spr a b).length ≤ 1000) := by
  rw [may_same hl]
  rcases may_dec hl with h | ⟨h1, h2, h3⟩
  · exact .inl ⟨h, h⟩
  · exact .inr ⟨h1, h1, h2, h3⟩

/-- Both make the same cells of states. -/
theorem of2_D {l : List Int} (hn : l.length ≤ 1000000) : ∀ (m n : Nat) (a b : List Int) (j : Int), 0 ≤ j → j + m = (l.length : Int) → (a.length : Int) ≤ j → m < n →
    ∃ (a' b' : List Int) (r : Bool), a'.length ≤ l.length ∧ (∀ {α : Type} (kx : Nat → List Leaf → Option α) (kr : List Leaf → Option α), vec_Of_3_L kx kr n l a b j (Int.ofNat l.length) = bif r then kx 0 [.li l, .li a', .li b'] else kr [.li l, .li a', .li b']) ∧
      (∀ {α : Type} (kx : Nat → List Leaf → Option α) (kr : List Leaf → Option α), ref_Of_3_L kx kr n l a b j = bif r then kx 0 [.li l, .li a', .li b'] else kr [.li l, .li a', .li b'])
  | 0, n, a, b, j, hj, hm, ha, hk => by
    obtain ⟨n, rfl⟩ : ∃ n', n = n' + 1 := ⟨n - 1, by omega⟩
    refine ⟨a, b, true, by omega, fun kx kr => ?_, fun kx kr => ?_⟩
    · simp only [vec_Of_3_L, vec_Of_3_B]
      rw [br_neg (by simp; omega), chk_ok (by simp), bif_t]
    · simp only [ref_Of_3_L, ref_Of_3_B, one_ev]
      rw [br_neg (by simp; omega), chk_ok (by simp), bif_t]
  | m + 1, n, a, b, j, hj, hm, ha, hk => by
    obtain ⟨n, rfl⟩ : ∃ n', n = n' + 1 := ⟨n - 1, by omega⟩
    have hlt' : j < Int.ofNat l.length := by simp; omega
    have hin : (0 : Int) ≤ j ∧ j < Int.ofNat l.length := ⟨hj, hlt'⟩
    have e3 : addI .i64 j 1 = j + 1 := addI_i (by unfold I63; omega)
    have e4 : subI .i64 (Int.ofNat a.length) 1 = (a.length : Int) - 1 := subI_i (by unfold I63; simp; omega)
    by_cases hs : St (l.getD j.toNat 0)
    · obtain ⟨a1, b1, r1, q1, g1, g2⟩ := of2_D hn m n (a ++ [l.getD j.toNat 0]) (b ++ [1]) (j + 1) (by omega) (by omega) (by simp; omega) (by omega)
      by_cases h0 : (a.length : Int) - 1 ≥ 0
      · have hin2 : (0 : Int) ≤ (a.length : Int) - 1 ∧ (a.length : Int) - 1 < Int.ofNat a.length := ⟨by omega, by simp; omega⟩
        by_cases h1 : a.getD ((a.length : Int) - 1).toNat 0 = l.getD j.toNat 0
        · by_cases h2 : b.getD ((a.length : Int) - 1).toNat 0 < 64
          · obtain ⟨a2, b2, r2, q2, g3, g4⟩ := of2_D hn m n a (b.set ((a.length : Int) - 1).toNat (addI .i64 (b.getD ((a.length : Int) - 1).toNat 0) 1)) (j + 1) (by omega) (by omega) (by omega) (by omega)
            refine ⟨a2, b2, r2, q2, fun kx kr => ?_, fun kx kr => ?_⟩
            · simp only [vec_Of_3_L, vec_Of_3_B, one_ev, e3, e4]
              rw [br_pos hlt']
              simp only [chk_pos hin, chk_pos hin2, state_t hs, out_ev, un_b_ev, un_nil_ev, Bool.not_true, br_f]
              rw [br_pos h0, br_eq h1, br_pos h2, chk_ok (by simp)]
              exact g3 kx kr
            · simp only [ref_Of_3_L, ref_Of_3_B, one_ev, e3, e4]
              rw [br_pos hlt']
              simp only [chk_pos hin, chk_pos hin2, rstate_t hs, out_ev, un_b_ev, un_nil_ev, Bool.not_true, br_f]
              rw [br_pos h0, br_eq h1, br_pos h2, chk_ok (by simp)]
              exact g4 kx kr
          · refine ⟨a1, b1, r1, q1, fun kx kr => ?_, fun kx kr => ?_⟩
            · simp only [vec_Of_3_L, vec_Of_3_B, one_ev, e3, e4]
              rw [br_pos hlt']
              simp only [chk_pos hin, chk_pos hin2, state_t hs, out_ev, un_b_ev, un_nil_ev, Bool.not_true, br_f]
              rw [br_pos h0, br_eq h1, br_neg h2, chk_ok (room16 (by omega)), chk_ok (by simp)]
              exact g1 kx kr
            · simp only [ref_Of_3_L, ref_Of_3_B, one_ev, e3, e4]
              rw [br_pos hlt']
              simp only [chk_pos hin, chk_pos hin2, rstate_t hs, out_ev, un_b_ev, un_nil_ev, Bool.not_true, br_f]
              rw [br_pos h0, br_eq h1, br_neg h2, chk_ok (room16 (by omega)), chk_ok (by simp)]
              exact g2 kx kr
        · refine ⟨a1, b1, r1, q1, fun kx kr => ?_, fun kx kr => ?_⟩
          · simp only [vec_Of_3_L, vec_Of_3_B, one_ev, e3, e4]
            rw [br_pos hlt']
            simp only [chk_pos hin, chk_pos hin2, state_t hs, out_ev, un_b_ev, un_nil_ev, Bool.not_true, br_f]
            rw [br_pos h0, br_ne h1, chk_ok (room16 (by omega)), chk_ok (by simp)]
            exact g1 kx kr
          · simp only [ref_Of_3_L, ref_Of_3_B, one_ev, e3, e4]
            rw [br_pos hlt']
            simp only [chk_pos hin, chk_pos hin2, rstate_t hs, out_ev, un_b_ev, un_nil_ev, Bool.not_true, br_f]
            rw [br_pos h0, br_ne h1, chk_ok (room16 (by omega)), chk_ok (by simp)]
            exact g2 kx kr
      · refine ⟨a1, b1, r1, q1, fun kx kr => ?_, fun kx kr => ?_⟩
        · simp only [vec_Of_3_L, vec_Of_3_B, one_ev, e3, e4]
          rw [br_pos hlt']
          simp only [chk_pos hin, state_t hs, out_ev, un_b_ev, un_nil_ev, Bool.not_true, br_f]
          rw [br_neg h0, chk_ok (room16 (by omega)), chk_ok (by simp)]
          exact g1 kx kr
        · simp only [ref_Of_3_L, ref_Of_3_B, one_ev, e3, e4]
          rw [br_pos hlt']
          simp only [chk_pos hin, rstate_t hs, out_ev, un_b_ev, un_nil_ev, Bool.not_true, br_f]
          rw [br_neg h0]
          rw [chk_ok (room16 (by omega)), chk_ok (by simp)]
          exact g2 kx kr
    · refine ⟨[], [], false, by simp, fun kx kr => ?_, fun kx kr => ?_⟩
      · simp only [vec_Of_3_L, vec_Of_3_B, one_ev]
        rw [br_pos hlt']
        simp only [chk_pos hin, state_n hs, out_ev, un_b_ev, un_nil_ev, Bool.not_false, br_t]
        rw [chk_ok (by simp), bif_f]
      · simp only [ref_Of_3_L, ref_Of_3_B, one_ev]
        rw [br_pos hlt']
        simp only [chk_pos hin, rstate_n hs, out_ev, un_b_ev, un_nil_ev, Bool.not_false, br_t]
        rw [chk_ok (by simp), bif_f]
theorem of_same {l : List Int} (hn : l.length ≤ 1000000) : ∃ a b, a.length ≤ l.length ∧ vec_Of l = some [.li a, .li b] ∧ ref_Of l = some [.li a, .li b] := by
  obtain ⟨a, b, r, q, h1, h2⟩ := of2_D hn l.length top [] [] 0 (by omega) (by omega) (by simp) (by rw [top_eq]; omega)
  refine ⟨a, b, q, ?_, ?_⟩
  · unfold vec_Of vec_Of_d
    simp only [one_ev]
    rw [chk_ok (by simp), h1]
    cases r
    · simp only [bif_f, un_li_ev, un_nil_ev]
      rw [chk_ok (by simp)]
    · simp only [bif_t, beq00, br_t, un_li_ev, un_nil_ev]
      rw [chk_ok (by simp)]
  · unfold ref_Of ref_Of_d
    rw [chk_ok (by simp), h2]
    cases r
    · simp only [bif_f, un_li_ev, un_nil_ev]
      rw [chk_ok (by simp)]
    · simp only [bif_t, beq00, br_t, un_li_ev, un_nil_ev]
      rw [chk_ok (by simp)]
end Go.Sx.T

