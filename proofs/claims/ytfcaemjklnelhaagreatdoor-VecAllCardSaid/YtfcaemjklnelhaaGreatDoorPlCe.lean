import Derived.Test.YtfcaemjklnelhaaGreatDoorPlMay
import Derived.Test.YtfcaemjklnelhaaGreatDoorYCelSpec
set_option linter.all false
namespace Go.Sx.T
open Go Go.Sx
theorem chk_ok {α : Type} {c : Bool} (h : c = true) (x : Option α) : chk c x = x := by rw [h]; exact chk_t x
theorem top_eq : top = 1000000000000000000000000 := rfl
theorem cells_L {a0 a1 : List Int} (ha : a0.length ≤ 1000000) {α : Type} (kx : Nat → List Leaf → Option α) (kr : List Leaf → Option α) : ∀ (m n : Nat) (j : Int), 0 ≤ j → j + m = (a0.length : Int) → m < n →
    law_cells_4_L kx kr n a0 a1 a0 a1 j (Int.ofNat a0.length) = kx 0 [.li a0, .li a1, .li a0, .li a1]
  | 0, n, j, hj, hm, hn => by
    obtain ⟨n, rfl⟩ : ∃ n', n = n' + 1 := ⟨n - 1, by omega⟩
    simp only [law_cells_4_L, law_cells_4_B]
    rw [br_neg (by simp; omega)]
  | m + 1, n, j, hj, hm, hn => by
    obtain ⟨n, rfl⟩ : ∃ n', n = n' + 1 := ⟨n - 1, by omega⟩
    have hlt : j < Int.ofNat a0.length := by simp; omega
    have e3 : addI .i64 j 1 = j + 1 := addI_i (by unfold I63; omega)
    have ih := cells_L (a1 := a1) ha kx kr m n (j + 1) (by omega) (by omega) (by omega)
    simp only [law_cells_4_L, law_cells_4_B, one_ev, e3]
    rw [br_pos hlt, chk_pos ⟨hj, hlt⟩, chk_pos ⟨hj, hlt⟩, chk_pos ⟨hj, hlt⟩, chk_pos ⟨hj, hlt⟩]
    simp only [eqP, beq_self_eq_true, Bool.and_self, Bool.not_true, br_f]
    rw [chk_ok (by simp)]
    exact ih
theorem cells_refl {a0 a1 : List Int} (ha : a0.length ≤ 1000000) : law_cells a0 a1 a0 a1 = some [.b true] := by
  unfold law_cells law_cells_d
  simp only [one_ev, bne_self_eq_false, br_f]
  rw [chk_ok (by simp), cells_L ha _ _ a0.length top 0 (by omega) (by omega) (by rw [top_eq]; omega)]
  simp only [beq00, br_t, un_li_ev, un_nil_ev]

/-! ### Texts as bytes -/
def gBy (s : ByteArray) : List Int := s.data.toList.map fun b => (b.toNat : Int)
theorem gB_len (s : ByteArray) : (gBy s).length = s.size := by simp [gBy]
theorem gB_bt (s : ByteArray) {t : Int} (h0 : 0 ≤ t) (h1 : t < (s.size : Int)) : bt s t = (gBy s).getD t.toNat 0 := by
  have : t.toNat < s.data.toList.length := by simp; omega
  simp only [bt, gBy, List.getD_eq_getElem?_getD, List.getElem?_map, List.getElem?_eq_getElem this, Option.map_some, Option.getD_some]
theorem gB_byte (s : ByteArray) : ∀ x ∈ gBy s, 0 ≤ x ∧ x < 256 := by
  intro x hx
  simp only [gBy, List.mem_map] at hx
  obtain ⟨b, _, rfl⟩ := hx
  have := b.toNat_lt
  omega
theorem gB_str (l : List Int) (h : ∀ x ∈ l, 0 ≤ x ∧ x < 256) : gBy (strOfI l) = l := by
  simp only [gBy, strOfI, List.map_map]
  conv => rhs; rw [← List.map_id l]
  apply List.map_congr_left
  intro x hx
  have := h x hx
  simp only [Function.comp, id, UInt8.toNat_ofNat']
  omega
theorem getD_byte {l : List Int} (h : ∀ x ∈ l, 0 ≤ x ∧ x < 256) {i : Nat} (hi : i < l.length) : 0 ≤ l.getD i 0 ∧ l.getD i 0 < 256 := by
  rw [List.getD_eq_getElem?_getD, List.getElem?_eq_getElem hi, Option.getD_some]
  exact h _ (List.getElem_mem hi)
def gok (l : List Int) : Bool := l.all fun x => x / 64 != 2
def gres (l : List Int) : List Leaf := if gok l then [.li (l.map (· / 64)), .li (l.map (· % 64 + 1)), .b true] else [.li [], .li [], .b false]
theorem room16 {k : Nat} (h : k ≤ 1000000) : (decide True && true && decide ((Int.ofNat k + (↑(1 : Nat) : Int)) * (↑(nat_lit 16) : Int) ≤ (140737488355328 : Int) ∧ Int.ofNat k + (↑(1 : Nat) : Int) ≤ (4611686018427387904 : Int))) = true := by
  simp only [decide_true, Bool.true_and, decide_eq_true_eq, Int.ofNat_eq_natCast]
  constructor <;> omega
theorem get_L {s : ByteArray} (hs : s.size ≤ 1000000) {α : Type} (kx : Nat → List Leaf → Option α) (kr : List Leaf → Option α) : ∀ (m n : Nat) (o0 o1 : List Int) (j : Int), 0 ≤ j → j + m = (s.size : Int) → (o0.length : Int) ≤ j → m < n →
    vec_Get_3_L kx kr n o0 o1 j s (↑s.size : Int) = if gok ((gBy s).drop j.toNat) then kx 0 [.li (o0 ++ ((gBy s).drop j.toNat).map (· / 64)), .li (o1 ++ ((gBy s).drop j.toNat).map (· % 64 + 1))] else kr [.li [], .li [], .b false]
  | 0, n, o0, o1, j, hj, hm, ho, hn => by
    obtain ⟨n, rfl⟩ : ∃ n', n = n' + 1 := ⟨n - 1, by omega⟩
    simp only [vec_Get_3_L, vec_Get_3_B]
    rw [br_neg (by simp; omega), List.drop_eq_nil_of_le (by rw [gB_len]; omega), chk_ok (by simp)]
    simp [gok]
  | m + 1, n, o0, o1, j, hj, hm, ho, hn => by
    obtain ⟨n, rfl⟩ : ∃ n', n = n' + 1 := ⟨n - 1, by omega⟩
    have hlt : j < (↑s.size : Int) := by omega
    have hl : j.toNat < (gBy s).length := by rw [gB_len]; omega
    obtain ⟨b0, b1⟩ := getD_byte (gB_byte s) hl
    have ih := get_L hs kx kr m n (o0 ++ [(gBy s).getD j.toNat 0 / 64]) (o1 ++ [(gBy s).getD j.toNat 0 % 64 + 1]) (j + 1) (by omega) (by omega) (by simp; omega) (by omega)
    rw [show (j + 1).toNat = j.toNat + 1 by omega] at ih
    rw [drop_getD hl]
    have e3 : addI .i64 j 1 = j + 1 := addI_i (by unfold I63; omega)
    simp only [vec_Get_3_L, vec_Get_3_B, one_ev, e3, gB_bt s hj hlt]
    generalize (gBy s).getD j.toNat 0 = c at *
    rw [br_pos hlt, chk_pos ⟨hj, hlt⟩, chk_pos ⟨hj, hlt⟩, wrapI_i (by unfold I63; omega), quoI_n b0 (by omega) (by decide), remI_u b0, addI_i (by unfold I63; omega)]
    by_cases h2 : c / 64 = 2
    · rw [br_eq h2, chk_ok (by simp)]
      have e : gok (c :: (gBy s).drop (j.toNat + 1)) = false := by simp [gok, h2]
      simp [e]
    · rw [br_ne h2, chk_ok (room16 (by omega)), chk_ok (by simp), ih]
      have e : gok (c :: (gBy s).drop (j.toNat + 1)) = gok ((gBy s).drop (j.toNat + 1)) := by simp [gok, h2]
      simp only [e, List.map_cons, List.append_assoc, List.singleton_append]
theorem get_t {s : ByteArray} (hs : s.size ≤ 1000000) : vec_Get s = some (gres (gBy s)) := by
  unfold vec_Get vec_Get_d
  simp only [one_ev]
  rw [chk_ok (by simp), get_L hs _ _ s.size top [] [] 0 (by omega) (by omega) (by simp) (by rw [top_eq]; omega)]
  simp only [Int.toNat_zero, List.drop_zero, List.nil_append, gres]
  by_cases h : gok (gBy s) = true
  · simp only [h, if_true, beq00, br_t, un_li_ev, un_nil_ev]
    rw [chk_ok (by simp)]
  · simp only [h, if_false, un_li_ev, un_b_ev, un_nil_ev, Bool.false_eq_true]
    rw [chk_ok (by simp)]
end Go.Sx.T

