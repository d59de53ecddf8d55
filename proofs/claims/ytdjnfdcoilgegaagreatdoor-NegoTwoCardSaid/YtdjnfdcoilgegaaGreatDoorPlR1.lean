import Derived.Test.YtdjnfdcoilgegaaGreatDoorPlFb
import Derived.Test.YtdjnfdcoilgegaaGreatDoorYR18Spec
set_option linter.all false
namespace Go.Sx.T
open Go Go.Sx
def dupF (v : ByteArray) (i : Nat) : Nat → Nat → Bool
  | 0, _ => false
  | m + 1, k => bif bt v (k : Int) == bt v (i : Int) then true else dupF v i m (k + 1)
theorem r14_L {v t55 : ByteArray} {t59 : Bool} {t57 t58 high t56 low : Int} {i : Nat} (hi : i < v.size) (hv : v.size ≤ 1000) {α : Type} (kx : Nat → List Leaf → Option α) (kr : List Leaf → Option α) : ∀ (m n k : Nat), k + m = i → m < n →
    r18_May_14_L kx kr n (k : Int) (i : Int) v t59 t57 t58 high t55 t56 low = bif dupF v i m k then kr [.b false] else kx 2 [.s v, .b t59, .i t57, .i t58, .i high, .s t55, .i t56, .i low, .i (i : Int)]
  | 0, n, k, h, hn => by
    obtain ⟨n, rfl⟩ : ∃ n', n = n' + 1 := ⟨n - 1, by omega⟩
    rw [r18_May_14_L, r18_May_14_B, br_neg (by omega), dupF, cond_false]
  | m + 1, n, k, h, hn => by
    obtain ⟨n, rfl⟩ : ∃ n', n = n' + 1 := ⟨n - 1, by omega⟩
    have e1 : addI .i64 (k : Int) 1 = ((k + 1 : Nat) : Int) := by rw [addI_i (by unfold I63; omega)]; omega
    rw [r18_May_14_L, r18_May_14_B, br_pos (by omega), chk_pos (by omega), one_ev, chk_pos (by omega), one_ev, dupF]
    cases hb : bt v (k : Int) == bt v (i : Int)
    · rw [br_f, cond_false, one_ev, e1]
      exact r14_L hi hv kx kr m n (k + 1) (by omega) (by omega)
    · rw [br_t, cond_true, cond_true]
def allF (v : ByteArray) (low high : Int) : Nat → Nat → Bool
  | 0, _ => true
  | m + 1, i => bif decide (bt v (i : Int) < low) then false else bif decide (bt v (i : Int) > high) then false else bif dupF v i i 0 then false else allF v low high m (i + 1)
theorem r9_L {v : ByteArray} {high low : Int} (hv : v.size ≤ 1000) {α : Type} (kx : Nat → List Leaf → Option α) (kr : List Leaf → Option α) : ∀ (m n i : Nat), i + m = v.size → m < n →
    r18_May_9_L kx kr n (i : Int) v high low = bif allF v low high m i then kx 0 [] else kr [.b false]
  | 0, n, i, h, hn => by
    obtain ⟨n, rfl⟩ : ∃ n', n = n' + 1 := ⟨n - 1, by omega⟩
    rw [r18_May_9_L, r18_May_9_B, one_ev, br_neg (by omega), allF, cond_true]
  | m + 1, n, i, h, hn => by
    obtain ⟨n, rfl⟩ : ∃ n', n = n' + 1 := ⟨n - 1, by omega⟩
    have e1 : addI .i64 (i : Int) 1 = ((i + 1 : Nat) : Int) := by rw [addI_i (by unfold I63; omega)]; omega
    rw [r18_May_9_L, r18_May_9_B, one_ev, br_pos (by omega), chk_pos (by omega), one_ev, allF]
    cases h1 : decide (bt v (i : Int) < low)
    · rw [br_f, cond_false, chk_pos (by omega), one_ev]
      cases h2 : decide (bt v (i : Int) > high)
      · rw [br_f, cond_false]
        have q := fun kx kr => r14_L (t59 := false) (t57 := bt v (i : Int)) (t58 := high) (high := high) (t55 := v) (t56 := (i : Int)) (low := low) (show i < v.size by omega) hv (α := α) kx kr i top 0 (by omega) (by unfold top; omega)
        rw [show ((0 : Nat) : Int) = 0 from rfl] at q
        rw [q]
        cases dupF v i i 0
        · rw [cond_false, cond_false]
          simp only [show Nat.beq 2 2 = true from rfl, br_t, un_s_ev, un_b_ev, un_i_ev, un_nil_ev, one_ev, e1]
          exact r9_L hv kx kr m n (i + 1) (by omega) (by omega)
        · rw [cond_true, cond_true, un_b_ev, un_nil_ev, cond_false]
      · rw [br_t, cond_true, cond_false]
    · rw [br_t, cond_true, cond_false]
theorem r18_t (v : ByteArray) : r18_May 1 v = some [.b (decide (1 ≤ v.size ∧ v.size ≤ 4) && allF v 2 3 v.size 0)] := by
  have hk : r18_Known 1 = some [.b true] := rfl
  have hb : r18_bounds 1 = some [.i 2, .i 3, .i 4] := rfl
  unfold r18_May r18_May_d
  simp only [hk, hb, out_ev, un_b_ev, un_i_ev, un_nil_ev, one_ev, Bool.not_true, br_f]
  rw [br_ne (by decide)]
  by_cases h1 : v.size < 1
  · rw [br_pos (by omega), decide_eq_false (by omega), Bool.false_and]
  · rw [br_neg (by omega)]
    by_cases h2 : v.size > 4
    · rw [br_pos (by omega), decide_eq_false (by omega), Bool.false_and]
    · rw [br_neg (by omega), decide_eq_true (by omega), Bool.true_and]
      have q := fun kx kr => r9_L (high := 3) (low := 2) (show v.size ≤ 1000 by omega) (α := List Leaf) kx kr v.size top 0 (by omega) (by unfold top; omega)
      rw [show ((0 : Nat) : Int) = 0 from rfl] at q
      rw [q]
      cases allF v 2 3 v.size 0
      · rw [cond_false, un_b_ev, un_nil_ev]
      · rw [cond_true, show Nat.beq 0 0 = true from rfl, br_t, un_nil_ev]
def Four (v : ByteArray) : Prop := v = { data := #[2] } ∨ v = { data := #[3] } ∨ v = { data := #[2, 3] } ∨ v = { data := #[3, 2] }
theorem four_of {v : ByteArray} (h1 : 1 ≤ v.size) (h : allF v 2 3 v.size 0 = true) : Four v := by
  have hb : ∀ i : Nat, bt v (i : Int) = ((v.data.toList.getD i 0).toNat : Int) := fun i => rfl
  have hv : ∀ L : List UInt8, v.data.toList = L → v = { data := L.toArray } := by
    intro L hL
    apply ByteArray.ext
    apply Array.toList_inj.1
    rw [hL]
  have hs := size_l v
  have two : ∀ b : UInt8, ¬ ((b.toNat : Int) < 2) → ¬ ((b.toNat : Int) > 3) → b = 2 ∨ b = 3 := by
    intro b g1 g2
    have : b.toNat = 2 ∨ b.toNat = 3 := by omega
    rcases this with g | g
    · exact .inl (UInt8.toNat_inj.1 g)
    · exact .inr (UInt8.toNat_inj.1 g)
  match hL : v.data.toList with
  | [] => rw [hL] at hs; simp at hs; omega
  | [b0] =>
    rw [hL] at hs
    rw [← hs] at h
    simp only [List.length_cons, List.length_nil, allF, dupF, hb, hL, cond_false] at h
    have g0 : ¬ ((b0.toNat : Int) < 2) := by intro x; rw [show decide ((([b0].getD 0 0).toNat : Int) < 2) = true from decide_eq_true x] at h; cases h
    have g1 : ¬ ((b0.toNat : Int) > 3) := by intro x; rw [show decide ((([b0].getD 0 0).toNat : Int) < 2) = false from decide_eq_false g0, show decide ((([b0].getD 0 0).toNat : Int) > 3) = true from decide_eq_true x] at h; cases h
    rcases two b0 g0 g1 with rfl | rfl
    · exact .inl (hv _ hL)
    · exact .inr (.inl (hv _ hL))
  | b0 :: b1 :: r =>
    rw [hL] at hs
    rw [← hs] at h
    have h0 : ([b0, b1] ++ r).getD 0 0 = b0 := rfl
    simp only [List.length_cons, allF, dupF, hb, hL] at h
    have g0 : ¬ ((b0.toNat : Int) < 2) := by
      intro x
      rw [show decide ((((b0 :: b1 :: r).getD 0 0).toNat : Int) < 2) = true from decide_eq_true x] at h; cases h
    rw [show decide ((((b0 :: b1 :: r).getD 0 0).toNat : Int) < 2) = false from decide_eq_false g0, cond_false] at h
    have g1 : ¬ ((b0.toNat : Int) > 3) := by
      intro x
      rw [show decide ((((b0 :: b1 :: r).getD 0 0).toNat : Int) > 3) = true from decide_eq_true x] at h; cases h
    rw [show decide ((((b0 :: b1 :: r).getD 0 0).toNat : Int) > 3) = false from decide_eq_false g1, cond_false, cond_false] at h
    have g2 : ¬ ((b1.toNat : Int) < 2) := by
      intro x
      rw [show decide ((((b0 :: b1 :: r).getD (0 + 1) 0).toNat : Int) < 2) = true from decide_eq_true x] at h; cases h
    rw [show decide ((((b0 :: b1 :: r).getD (0 + 1) 0).toNat : Int) < 2) = false from decide_eq_false g2, cond_false] at h
    have g3 : ¬ ((b1.toNat : Int) > 3) := by
      intro x
      rw [show decide ((((b0 :: b1 :: r).getD (0 + 1) 0).toNat : Int) > 3) = true from decide_eq_true x] at h; cases h
    rw [show decide ((((b0 :: b1 :: r).getD (0 + 1) 0).toNat : Int) > 3) = false from decide_eq_false g3, cond_false] at h
    have g4 : b0 ≠ b1 := by
      rintro rfl
      simp [cond] at h
    match r, hL, h with
    | [], hL, h =>
      rcases two b0 g0 g1 with rfl | rfl <;> rcases two b1 g2 g3 with rfl | rfl
      · exact absurd rfl g4
      · exact .inr (.inr (.inl (hv _ hL)))
      · exact .inr (.inr (.inr (hv _ hL)))
      · exact absurd rfl g4
    | b2 :: r, hL, h =>
      exfalso
      simp only [List.length_cons, allF, dupF, hb, hL] at h
      rcases two b0 g0 g1 with rfl | rfl <;> rcases two b1 g2 g3 with rfl | rfl
      · exact g4 rfl
      · by_cases x : ((b2.toNat : Int) < 2)
        · simp [x] at h
        · by_cases y : ((b2.toNat : Int) > 3)
          · simp [x, y] at h
          · rcases two b2 x y with rfl | rfl <;> simp at h
      · by_cases x : ((b2.toNat : Int) < 2)
        · simp [x] at h
        · by_cases y : ((b2.toNat : Int) > 3)
          · simp [x, y] at h
          · rcases two b2 x y with rfl | rfl <;> simp at h
      · exact g4 rfl
theorem r18_four (v : ByteArray) : r18_May 1 v = some [.b false] ∨ (Four v ∧ r18_May 1 v = some [.b true]) := by
  rw [r18_t]
  by_cases h : 1 ≤ v.size ∧ v.size ≤ 4
  · rw [decide_eq_true h, Bool.true_and]
    cases ha : allF v 2 3 v.size 0
    · exact .inl rfl
    · exact .inr ⟨four_of h.1 ha, rfl⟩
  · rw [decide_eq_false h, Bool.false_and]; exact .inl rfl
end Go.Sx.T

