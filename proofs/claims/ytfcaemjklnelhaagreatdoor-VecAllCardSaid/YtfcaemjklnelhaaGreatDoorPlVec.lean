import Derived.Test.YtfcaemjklnelhaaGreatDoorYVecSpec
import Derived.Test.YtfcaemjklnelhaaGreatDoorPlA
set_option linter.all false
namespace Go.Sx.T
open Go Go.Sx
theorem rep_t (s : Int) : ∀ k : Nat, k < 64 → vec_Repeat [s] ((k : Int) + 1) = some [.li (List.replicate (k + 1) s)]
  | 0, _ => by kernel_rfl
  | 1, _ => by kernel_rfl
  | 2, _ => by kernel_rfl
  | 3, _ => by kernel_rfl
  | 4, _ => by kernel_rfl
  | 5, _ => by kernel_rfl
  | 6, _ => by kernel_rfl
  | 7, _ => by kernel_rfl
  | 8, _ => by kernel_rfl
  | 9, _ => by kernel_rfl
  | 10, _ => by kernel_rfl
  | 11, _ => by kernel_rfl
  | 12, _ => by kernel_rfl
  | 13, _ => by kernel_rfl
  | 14, _ => by kernel_rfl
  | 15, _ => by kernel_rfl
  | 16, _ => by kernel_rfl
  | 17, _ => by kernel_rfl
  | 18, _ => by kernel_rfl
  | 19, _ => by kernel_rfl
  | 20, _ => by kernel_rfl
  | 21, _ => by kernel_rfl
  | 22, _ => by kernel_rfl
  | 23, _ => by kernel_rfl
  | 24, _ => by kernel_rfl
  | 25, _ => by kernel_rfl
  | 26, _ => by kernel_rfl
  | 27, _ => by kernel_rfl
  | 28, _ => by kernel_rfl
  | 29, _ => by kernel_rfl
  | 30, _ => by kernel_rfl
  | 31, _ => by kernel_rfl
  | 32, _ => by kernel_rfl
  | 33, _ => by kernel_rfl
  | 34, _ => by kernel_rfl
  | 35, _ => by kernel_rfl
  | 36, _ => by kernel_rfl
  | 37, _ => by kernel_rfl
  | 38, _ => by kernel_rfl
  | 39, _ => by kernel_rfl
  | 40, _ => by kernel_rfl
  | 41, _ => by kernel_rfl
  | 42, _ => by kernel_rfl
  | 43, _ => by kernel_rfl
  | 44, _ => by kernel_rfl
  | 45, _ => by kernel_rfl
  | 46, _ => by kernel_rfl
  | 47, _ => by kernel_rfl
  | 48, _ => by kernel_rfl
  | 49, _ => by kernel_rfl
  | 50, _ => by kernel_rfl
  | 51, _ => by kernel_rfl
  | 52, _ => by kernel_rfl
  | 53, _ => by kernel_rfl
  | 54, _ => by kernel_rfl
  | 55, _ => by kernel_rfl
  | 56, _ => by kernel_rfl
  | 57, _ => by kernel_rfl
  | 58, _ => by kernel_rfl
  | 59, _ => by kernel_rfl
  | 60, _ => by kernel_rfl
  | 61, _ => by kernel_rfl
  | 62, _ => by kernel_rfl
  | 63, _ => by kernel_rfl
  | n + 64, h => absurd h (by omega)
theorem rep_i {s c : Int} (h1 : 1 ≤ c) (h2 : c ≤ 64) : vec_Repeat [s] c = some [.li (List.replicate c.toNat s)] := by
  have := rep_t s (c.toNat - 1) (by omega)
  rw [show (((c.toNat - 1 : Nat) : Int) + 1) = c by omega, show c.toNat - 1 + 1 = c.toNat by omega] at this
  exact this
def St (s : Int) : Prop := s = 0 ∨ s = 1 ∨ s = 3
theorem state_t {s : Int} (h : St s) : vec_state s = some [.b true] := by
  rcases h with rfl | rfl | rfl <;> rfl
/-- The states of cells. -/
def spr : List Int → List Int → List Int
  | s :: a, r :: b => List.replicate r.toNat s ++ spr a b
  | _, _ => []
theorem spr_append : ∀ {a b a' b' : List Int}, a.length = b.length → spr (a ++ a') (b ++ b') = spr a b ++ spr a' b'
  | [], [], a', b', _ => by simp [spr]
  | s :: a, r :: b, a', b', h => by
    have := spr_append (a := a) (b := b) (a' := a') (b' := b') (by simpa using h)
    simp [spr, this]
structure CsOk (a b : List Int) : Prop where
  len : b.length = a.length
  st : ∀ s ∈ a, St s
  run : ∀ r ∈ b, 1 ≤ r ∧ r ≤ 64
theorem CsOk.at {a b : List Int} (h : CsOk a b) {j : Int} (h0 : 0 ≤ j) (h1 : j < (a.length : Int)) : St (a.getD j.toNat 0) ∧ 1 ≤ b.getD j.toNat 0 ∧ b.getD j.toNat 0 ≤ 64 := by
  have hl := h.len
  have e1 : j.toNat < a.length := by omega
  have e2 : j.toNat < b.length := by omega
  rw [List.getD_eq_getElem?_getD, List.getD_eq_getElem?_getD, List.getElem?_eq_getElem e1, List.getElem?_eq_getElem e2]
  exact ⟨h.st _ (List.getElem_mem e1), h.run _ (List.getElem_mem e2)⟩
theorem drop_getD {l : List Int} {j : Nat} (h : j < l.length) : l.drop j = l.getD j 0 :: l.drop (j + 1) := by
  rw [List.drop_eq_getElem_cons h, List.getD_eq_getElem?_getD, List.getElem?_eq_getElem h]
  rfl
theorem spr_drop {a b : List Int} (h : b.length = a.length) {j : Nat} (hj : j < a.length) : spr (a.drop j) (b.drop j) = List.replicate (b.getD j 0).toNat (a.getD j 0) ++ spr (a.drop (j + 1)) (b.drop (j + 1)) := by
  rw [drop_getD hj, drop_getD (show j < b.length by omega)]
  rfl
theorem cs_len {a b : List Int} (hc : CsOk a b) : a.length ≤ (spr a b).length := by
  obtain ⟨h1, h2, h3⟩ := hc
  clear h2
  induction a generalizing b with
  | nil => simp
  | cons s a ih =>
    cases b with
    | nil => simp at h1
    | cons r b =>
      have := ih (b := b) (by simpa using h1) (fun x hx => h3 x (by simp [hx]))
      have h4 := h3 r (by simp)
      simp only [spr, List.length_append, List.length_replicate, List.length_cons]
      omega
theorem chk_R {α : Type} {d : Prop} [Decidable d] (h : d) (x : Option α) : chk (decide True && decide True && decide d) x = x := by simp [chk, h]
theorem may_L {a b : List Int} (hc : CsOk a b) (ha : a.length ≤ 1000) {α : Type} (kx : Nat → List Leaf → Option α) (kr : List Leaf → Option α) : ∀ (m n : Nat) (j t : Int), 0 ≤ j → j + m = (a.length : Int) → 0 ≤ t → t + (spr (a.drop j.toNat) (b.drop j.toNat)).length ≤ 1000 → m < n →
    vec_May_3_L kx kr n a b j t (Int.ofNat a.length) = kx 0 [.li a, .li b]
  | 0, n, j, t, hj, hm, ht, hs, hn => by
    obtain ⟨n, rfl⟩ : ∃ n', n = n' + 1 := ⟨n - 1, by omega⟩
    simp only [vec_May_3_L, vec_May_3_B]
    rw [br_neg (by simp; omega)]
  | m + 1, n, j, t, hj, hm, ht, hs, hn => by
    obtain ⟨n, rfl⟩ : ∃ n', n = n' + 1 := ⟨n - 1, by omega⟩
    have hlt : j < Int.ofNat a.length := by simp; omega
    obtain ⟨p1, p2, p3⟩ := hc.at hj (by omega)
    rw [spr_drop hc.len (by omega), List.length_append, List.length_replicate] at hs
    have e3 : addI .i64 j 1 = j + 1 := addI_i (by unfold I63; omega)
    have e4 : addI .i64 t (b.getD j.toNat 0) = t + b.getD j.toNat 0 := addI_i (by unfold I63; omega)
    have ih := may_L hc ha kx kr m n (j + 1) (t + b.getD j.toNat 0) (by omega) (by omega) (by omega) (by rw [show (j + 1).toNat = j.toNat + 1 by omega]; omega) (by omega)
    simp only [vec_May_3_L, vec_May_3_B, one_ev, e3, e4]
    rw [br_pos hlt, chk_pos ⟨hj, hlt⟩, chk_pos ⟨hj, hlt⟩, state_t p1]
    simp only [out_ev, un_b_ev, un_nil_ev, Bool.not_true, br_f]
    rw [br_neg (by omega), br_neg (by omega), br_neg (by omega)]
    simp only [chk_T]
    exact ih
theorem may_t {a b : List Int} (hc : CsOk a b) (h : (spr a b).length ≤ 1000) : vec_May a b = some [.b true] := by
  unfold vec_May vec_May_d
  simp only [one_ev, chk_T]
  have hl := cs_len hc
  rw [may_L hc (by omega) _ _ a.length top 0 0 (by omega) (by omega) (by omega) (by simp only [Int.toNat_zero, List.drop_zero]; omega) (by
    have : top = 1000000000000000000000000 := rfl
    omega)]
  simp only [beq00, br_t, un_li_ev, un_nil_ev]
theorem spread_L {a b : List Int} (hc : CsOk a b) (ha : a.length ≤ 1000) {α : Type} (kx : Nat → List Leaf → Option α) (kr : List Leaf → Option α) : ∀ (m n : Nat) (o : List Int) (j : Int), 0 ≤ j → j + m = (a.length : Int) → o.length + (spr (a.drop j.toNat) (b.drop j.toNat)).length ≤ 1000 → m < n →
    vec_Spread_5_L kx kr n a b o j (Int.ofNat a.length) = kx 0 [.li a, .li b, .li (o ++ spr (a.drop j.toNat) (b.drop j.toNat))]
  | 0, n, o, j, hj, hm, hs, hn => by
    obtain ⟨n, rfl⟩ : ∃ n', n = n' + 1 := ⟨n - 1, by omega⟩
    simp only [vec_Spread_5_L, vec_Spread_5_B]
    rw [br_neg (by simp; omega), List.drop_eq_nil_of_le (by omega)]
    simp only [chk_T, spr, List.append_nil]
  | m + 1, n, o, j, hj, hm, hs, hn => by
    obtain ⟨n, rfl⟩ : ∃ n', n = n' + 1 := ⟨n - 1, by omega⟩
    have hlt : j < Int.ofNat a.length := by simp; omega
    obtain ⟨p1, p2, p3⟩ := hc.at hj (by omega)
    rw [spr_drop hc.len (by omega), List.length_append, List.length_replicate] at hs
    have e3 : addI .i64 j 1 = j + 1 := addI_i (by unfold I63; omega)
    have ih := spread_L hc ha kx kr m n (o ++ List.replicate (b.getD j.toNat 0).toNat (a.getD j.toNat 0)) (j + 1) (by omega) (by omega) (by rw [show (j + 1).toNat = j.toNat + 1 by omega, List.length_append, List.length_replicate]; omega) (by omega)
    rw [show (j + 1).toNat = j.toNat + 1 by omega, List.append_assoc, ← spr_drop hc.len (by omega)] at ih
    simp only [vec_Spread_5_L, vec_Spread_5_B, one_ev, e3]
    rw [br_pos hlt, chk_pos ⟨hj, hlt⟩, chk_pos ⟨hj, hlt⟩, show ∀ x : Option α, chk (decide ((↑(1 : Nat) : Int) = Int.ofNat (List.length [a.getD j.toNat 0])) && true) x = x from fun x => by simp [chk], rep_i p2 p3]
    simp only [out_ev, un_li_ev, un_nil_ev]
    rw [chk_R (by simp only [Int.ofNat_eq_natCast, List.length_replicate]; constructor <;> omega), show ∀ x : Option α, chk (decide (Int.ofNat o.length + Int.ofNat (List.replicate (b.getD j.toNat 0).toNat (a.getD j.toNat 0)).length = Int.ofNat (o ++ List.replicate (b.getD j.toNat 0).toNat (a.getD j.toNat 0)).length) && (decide True && true)) x = x from fun x => by simp [chk]]
    exact ih
theorem spread_t {a b : List Int} (hc : CsOk a b) (h : (spr a b).length ≤ 1000) : vec_Spread a b = some [.li (spr a b)] := by
  have hl := cs_len hc
  unfold vec_Spread vec_Spread_d
  simp only [chk_T, may_t hc h, out_ev, un_b_ev, un_nil_ev, Bool.not_true, br_f, one_ev]
  rw [show ∀ x : Option (List Leaf), chk (decide ((0 : Int) = Int.ofNat (0 : Nat)) && (decide True && true)) x = x from fun x => by simp [chk]]
  rw [spread_L hc (by omega) _ _ a.length top [] 0 (by omega) (by omega) (by simp only [Int.toNat_zero, List.drop_zero, List.length_nil]; omega) (by
    have : top = 1000000000000000000000000 := rfl
    omega)]
  simp only [beq00, br_t, un_li_ev, un_nil_ev, chk_T, List.nil_append, Int.toNat_zero, List.drop_zero]
end Go.Sx.T

