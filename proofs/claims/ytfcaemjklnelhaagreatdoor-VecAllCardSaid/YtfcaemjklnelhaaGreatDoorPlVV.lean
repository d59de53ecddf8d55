import Derived.Test.YtfcaemjklnelhaaGreatDoorPlVB
set_option linter.all false
namespace Go.Sx.T
open Go Go.Sx
theorem rget_L {s : ByteArray} (hs : s.size ≤ 1000000) {α : Type} (kx : Nat → List Leaf → Option α) (kr : List Leaf → Option α) : ∀ (m n : Nat) (o0 o1 : List Int) (j : Int), 0 ≤ j → j + m = (s.size : Int) → (o0.length : Int) ≤ j → m < n →
    ref_GetVector_3_L kx kr n o0 o1 j s = if gok ((gBy s).drop j.toNat) then kx 0 [.li (o0 ++ ((gBy s).drop j.toNat).map (· / 64)), .li (o1 ++ ((gBy s).drop j.toNat).map (· % 64 + 1))] else kr [.li [], .li [], .b false]
  | 0, n, o0, o1, j, hj, hm, ho, hn => by
    obtain ⟨n, rfl⟩ : ∃ n', n = n' + 1 := ⟨n - 1, by omega⟩
    simp only [ref_GetVector_3_L, ref_GetVector_3_B, one_ev]
    rw [br_neg (by simp; omega), List.drop_eq_nil_of_le (by rw [gB_len]; omega), chk_ok (by simp)]
    simp [gok]
  | m + 1, n, o0, o1, j, hj, hm, ho, hn => by
    obtain ⟨n, rfl⟩ : ∃ n', n = n' + 1 := ⟨n - 1, by omega⟩
    have hlt : j < (↑s.size : Int) := by omega
    have hl : j.toNat < (gBy s).length := by rw [gB_len]; omega
    obtain ⟨b0, b1⟩ := getD_byte (gB_byte s) hl
    have ih := rget_L hs kx kr m n (o0 ++ [(gBy s).getD j.toNat 0 / 64]) (o1 ++ [(gBy s).getD j.toNat 0 % 64 + 1]) (j + 1) (by omega) (by omega) (by simp; omega) (by omega)
    rw [show (j + 1).toNat = j.toNat + 1 by omega] at ih
    rw [drop_getD hl]
    have e3 : addI .i64 j 1 = j + 1 := addI_i (by unfold I63; omega)
    simp only [ref_GetVector_3_L, ref_GetVector_3_B, one_ev, e3, gB_bt s hj hlt]
    generalize (gBy s).getD j.toNat 0 = c at *
    have e8 : quoI .u8 c 64 = c / 64 := by
      unfold quoI
      rw [wrap_u8, Int.tdiv_eq_ediv_of_nonneg b0]; omega
    rw [br_pos hlt]
    simp only [chk_pos (show 0 ≤ j ∧ j < (↑s.size : Int) from ⟨hj, hlt⟩)]
    rw [e8, remI_u b0, wrapI_i (by unfold I63; omega), wrapI_i (by unfold I63; omega), addI_i (by unfold I63; omega)]
    by_cases h2 : c / 64 = 2
    · rw [br_eq h2, chk_ok (by simp)]
      have e : gok (c :: (gBy s).drop (j.toNat + 1)) = false := by simp [gok, h2]
      simp [e]
    · rw [br_ne h2, chk_ok (room16 (by omega)), chk_ok (by simp), ih]
      have e : gok (c :: (gBy s).drop (j.toNat + 1)) = gok ((gBy s).drop (j.toNat + 1)) := by simp [gok, h2]
      simp only [e, List.map_cons, List.append_assoc, List.singleton_append]
theorem rget_t {s : ByteArray} (hs : s.size ≤ 1000000) : ref_GetVector s = some (gres (gBy s)) := by
  unfold ref_GetVector ref_GetVector_d
  rw [chk_ok (by simp), rget_L hs _ _ s.size top [] [] 0 (by omega) (by omega) (by simp) (by rw [top_eq]; omega)]
  simp only [Int.toNat_zero, List.drop_zero, List.nil_append, gres]
  by_cases h : gok (gBy s) = true
  · simp only [h, if_true, beq00, br_t, un_li_ev, un_nil_ev]
    rw [chk_ok (by simp)]
  · simp only [h, if_false, un_li_ev, un_b_ev, un_nil_ev, Bool.false_eq_true]
    rw [chk_ok (by simp)]

/-! ### The document's vector -/
def tx (v : Nat → Int) (i x : Nat) : ByteArray := strOfI ((List.range (min 253 (i - 253 * x))).map fun j => v (253 * x + j))
def txs (v : Nat → Int) (i : Nat) : List ByteArray := (List.range ((i + 252) / 253)).map (tx v i)
theorem txs_len (v : Nat → Int) (i : Nat) : (txs v i).length = (i + 252) / 253 := by simp [txs]
theorem str_app (a b : List Int) : strOfI a ++ strOfI b = strOfI (a ++ b) := by
  apply ByteArray.ext
  simp [strOfI]
theorem txs_new (v : Nat → Int) {i : Nat} (h : i % 253 = 0) : txs v (i + 1) = txs v i ++ [strOfI [v i]] := by
  have e1 : (i + 1 + 252) / 253 = (i + 252) / 253 + 1 := by omega
  have e2 : 253 * ((i + 252) / 253) = i := by omega
  unfold txs
  rw [e1, List.range_succ, List.map_append]
  congr 1
  · apply List.map_congr_left
    intro x hx
    have hx' := List.mem_range.1 hx
    unfold tx
    rw [show min 253 (i + 1 - 253 * x) = min 253 (i - 253 * x) by omega]
  · simp only [List.map_cons, List.map_nil, tx, e2]
    rw [show min 253 (i + 1 - i) = 1 by omega]
    simp
theorem txs_grow (v : Nat → Int) {i : Nat} (h : i % 253 ≠ 0) : txs v (i + 1) = (txs v i).set (i / 253) ((txs v i).getD (i / 253) ByteArray.empty ++ strOfI [v i]) := by
  have e1 : (i + 1 + 252) / 253 = (i + 252) / 253 := by omega
  have hlt : i / 253 < (i + 252) / 253 := by omega
  apply List.ext_getElem
  · rw [List.length_set, txs_len, txs_len, e1]
  · intro x h1 h2
    rw [txs_len, e1] at h1
    by_cases hx : x = i / 253
    · subst hx
      rw [List.getElem_set_self, List.getD_eq_getElem?_getD, List.getElem?_eq_getElem (by rw [txs_len]; exact hlt), Option.getD_some]
      simp only [txs, List.getElem_map, List.getElem_range, tx]
      rw [str_app, show min 253 (i + 1 - 253 * (i / 253)) = min 253 (i - 253 * (i / 253)) + 1 by omega, List.range_succ, List.map_append]
      congr 2
      simp only [List.map_cons, List.map_nil]
      rw [show 253 * (i / 253) + min 253 (i - 253 * (i / 253)) = i by omega]
    · rw [List.getElem_set_ne (Ne.symm hx)]
      simp only [txs, List.getElem_map, List.getElem_range, tx]
      rw [show min 253 (i + 1 - 253 * x) = min 253 (i - 253 * x) by omega]
theorem getD_last (l : List ByteArray) (x : ByteArray) : (l ++ [x]).getD l.length ByteArray.empty = x := by simp [List.getD_eq_getElem?_getD]
theorem set_last (l : List ByteArray) (x y : ByteArray) : (l ++ [x]).set l.length y = l ++ [y] := by
  rw [List.set_append_right _ _ (Nat.le_refl _)]; simp
theorem emp_app (a : List Int) : ({ data := #[] } : ByteArray) ++ strOfI a = strOfI a := by
  apply ByteArray.ext
  simp
def vv (a b : List Int) (j : Nat) : Int := putB (a.getD j 0) (b.getD j 0)
theorem tx_size (v : Nat → Int) (i x : Nat) : (tx v i x).size ≤ 253 := by
  rw [tx, ← gB_len]
  simp only [gBy, strOfI]
  simp
  omega
theorem rv_L {a b : List Int} (hl : a.length ≤ 600) {α : Type} (kx : Nat → List Leaf → Option α) (kr : List Leaf → Option α) : ∀ (m n i : Nat), i + m = a.length → m < n →
    ref_Vector_5_L kx kr n a b (txs (vv a b) i) (i : Int) = kx 0 [.li a, .li b, .ls (txs (vv a b) a.length)]
  | 0, n, i, hm, hn => by
    obtain ⟨n, rfl⟩ : ∃ n', n = n' + 1 := ⟨n - 1, by omega⟩
    obtain rfl : i = a.length := by omega
    simp only [ref_Vector_5_L, ref_Vector_5_B, one_ev]
    rw [br_neg (by simp), chk_ok (by simp)]
  | m + 1, n, i, hm, hn => by
    obtain ⟨n, rfl⟩ : ∃ n', n = n' + 1 := ⟨n - 1, by omega⟩
    have ih := rv_L (b := b) hl kx kr m n (i + 1) (by omega) (by omega)
    have hlt : (i : Int) < Int.ofNat a.length := by simp; omega
    have hin : (0 : Int) ≤ (i : Int) ∧ (i : Int) < Int.ofNat a.length := ⟨by omega, hlt⟩
    have e3 : addI .i64 (i : Int) 1 = ((i + 1 : Nat) : Int) := by rw [addI_i (by unfold I63; omega)]; rfl
    have e4 : remI .i64 (i : Int) 253 = ((i % 253 : Nat) : Int) := by rw [remI_u (by omega)]; omega
    have htl := txs_len (vv a b) i
    have e7 : ∀ x : Int, partL Option.none (↑(1 : Nat) : Int) [x] = [x] := fun x => rfl
    have e6 : wrapI .u8 (subI .i64 (addI .i64 (mulI .i64 (a.getD i 0) 64) (b.getD i 0)) 1) = vv a b i := rfl
    have es1 : (strOfI [vv a b i]).size = 1 := rfl
    simp only [ref_Vector_5_L, ref_Vector_5_B, one_ev, e3, e4, Int.toNat_natCast, e6, e7]
    rw [br_pos hlt]
    by_cases h0 : i % 253 = 0
    · have e5 : subI .i64 (Int.ofNat (txs (vv a b) i).length + (↑1 : Int)) 1 = ((txs (vv a b) i).length : Int) := by rw [subI_i (by unfold I63; simp; omega)]; simp
      have hin2 : (0 : Int) ≤ ((txs (vv a b) i).length : Int) ∧ ((txs (vv a b) i).length : Int) < Int.ofNat (txs (vv a b) i).length + (↑(1 : Nat) : Int) := ⟨by omega, by simp; omega⟩
      rw [br_eq (by omega), chk_ok (room16 (by omega))]
      simp only [e5, chk_pos hin, chk_pos hin2, offAdd, Int.toNat_natCast, getD_last, set_last, emp_app]
      rw [chk_ok (by rw [es1]; rfl), chk_ok (by simp), ← txs_new _ h0]
      exact ih
    · have e5 : subI .i64 (Int.ofNat (txs (vv a b) i).length) 1 = ((i / 253 : Nat) : Int) := by
        rw [txs_len, subI_i (by unfold I63; simp; omega)]; simp; omega
      have hin2 : (0 : Int) ≤ ((i / 253 : Nat) : Int) ∧ ((i / 253 : Nat) : Int) < Int.ofNat (txs (vv a b) i).length := ⟨by omega, by rw [txs_len]; simp; omega⟩
      have hsz : ((txs (vv a b) i).getD (i / 253) ByteArray.empty).size ≤ 253 := by
        rw [List.getD_eq_getElem?_getD, List.getElem?_eq_getElem (by rw [txs_len]; omega), Option.getD_some]
        simp only [txs, List.getElem_map]
        exact tx_size _ _ _
      rw [br_ne (by omega)]
      simp only [e5, chk_pos hin, chk_pos hin2, offAdd, Int.toNat_natCast]
      rw [chk_ok (by rw [es1]; exact Nat.ble_eq_true_of_le (by omega)), chk_ok (by simp), ← txs_grow _ h0]
      exact ih
theorem txs_put {a b : List Int} : txs (vv a b) a.length = putL a b := by
  unfold txs putL
  apply List.map_congr_left
  intro x _
  rfl
theorem rvector_t {a b : List Int} (hm : ref_MayCells a b = some [.b true]) (hl : a.length ≤ 600) : ref_Vector a b = some [.ls (putL a b)] := by
  unfold ref_Vector ref_Vector_d
  rw [chk_ok (by simp), hm]
  simp only [out_ev, un_b_ev, un_nil_ev, Bool.not_true, br_f]
  have := rv_L (b := b) hl (α := List Leaf)
  rw [chk_ok (by simp)]
  have e2 := fun kx kr => this kx kr a.length top 0 (by omega) (by rw [top_eq]; omega)
  have e0 : txs (vv a b) 0 = [] := rfl
  simp only [e0, Int.natCast_zero] at e2
  rw [e2, txs_put]
  simp only [beq00, br_t, un_li_ev, un_ls_ev, un_nil_ev]
  rw [chk_ok (by simp)]
theorem rvector_f {a b : List Int} (hm : ref_MayCells a b = some [.b false]) : ref_Vector a b = some [.ls []] := by
  unfold ref_Vector ref_Vector_d
  rw [chk_ok (by simp), hm]
  simp only [out_ev, un_b_ev, un_nil_ev, Bool.not_false, br_t]
  rw [chk_ok (by simp)]

/-! ### Its states of cells -/
theorem room8' {k : Nat} (h : k ≤ 1000000) : (decide True && true && decide ((Int.ofNat k + (↑(1 : Nat) : Int)) * (↑(nat_lit 8) : Int) ≤ (140737488355328 : Int) ∧ Int.ofNat k + (↑(1 : Nat) : Int) ≤ (4611686018427387904 : Int))) = true := by
  simp only [decide_true, Bool.true_and, decide_eq_true_eq, Int.ofNat_eq_natCast]
  constructor <;> omega
theorem rs8 {a b : List Int} {i : Int} (hi0 : 0 ≤ i) (hi1 : i < (a.length : Int)) {R : Nat} (hR : b.getD i.toNat 0 = (R : Int)) (hR2 : R ≤ 64) {α : Type} (kx : Nat → List Leaf → Option α) (kr : List Leaf → Option α) : ∀ (m n k : Nat) (l : List Int), k + m = R → l.length + m ≤ 2000 → m < n →
    ref_Spread_8_L kx kr n a b l (k : Int) i = kx 2 [.li a, .li b, .li (l ++ List.replicate m (a.getD i.toNat 0)), .i i]
  | 0, n, k, l, hm, hl, hn => by
    obtain ⟨n, rfl⟩ : ∃ n', n = n' + 1 := ⟨n - 1, by omega⟩
    have hin : (0 : Int) ≤ i ∧ i < Int.ofNat a.length := ⟨hi0, hi1⟩
    simp only [ref_Spread_8_L, ref_Spread_8_B, chk_pos hin, hR]
    rw [br_neg (by omega), chk_ok (by simp)]
    simp
  | m + 1, n, k, l, hm, hl, hn => by
    obtain ⟨n, rfl⟩ : ∃ n', n = n' + 1 := ⟨n - 1, by omega⟩
    have hin : (0 : Int) ≤ i ∧ i < Int.ofNat a.length := ⟨hi0, hi1⟩
    have ih := rs8 hi0 hi1 hR hR2 kx kr m n (k + 1) (l ++ [a.getD i.toNat 0]) (by omega) (by simp; omega) (by omega)
    have e3 : addI .i64 (k : Int) 1 = ((k + 1 : Nat) : Int) := by rw [addI_i (by unfold I63; omega)]; rfl
    simp only [ref_Spread_8_L, ref_Spread_8_B, chk_pos hin, hR, one_ev, e3]
    rw [br_pos (by omega), chk_ok (room8' (by omega)), chk_ok (by simp), ih, List.replicate_succ]
    simp
theorem rs5 {a b : List Int} (hc : CsOk a b) (ha : a.length ≤ 1000) {α : Type} (kx : Nat → List Leaf → Option α) (kr : List Leaf → Option α) : ∀ (m n : Nat) (l : List Int) (j : Int), 0 ≤ j → j + m = (a.length : Int) → l.length + (spr (a.drop j.toNat) (b.drop j.toNat)).length ≤ 1000 → m < n →
    ref_Spread_5_L kx kr n a b l j = kx 0 [.li a, .li b, .li (l ++ spr (a.drop j.toNat) (b.drop j.toNat))]
  | 0, n, l, j, hj, hm, hs, hn => by
    obtain ⟨n, rfl⟩ : ∃ n', n = n' + 1 := ⟨n - 1, by omega⟩
    simp only [ref_Spread_5_L, ref_Spread_5_B, one_ev]
    rw [br_neg (by simp; omega), List.drop_eq_nil_of_le (by omega), chk_ok (by simp)]
    simp only [spr, List.append_nil]
  | m + 1, n, l, j, hj, hm, hs, hn => by
    obtain ⟨n, rfl⟩ : ∃ n', n = n' + 1 := ⟨n - 1, by omega⟩
    have hlt : j < Int.ofNat a.length := by simp; omega
    obtain ⟨p1, p2, p3⟩ := hc.at hj (by omega)
    rw [spr_drop hc.len (by omega), List.length_append, List.length_replicate] at hs
    have e3 : addI .i64 j 1 = j + 1 := addI_i (by unfold I63; omega)
    have ih := rs5 hc ha kx kr m n (l ++ List.replicate (b.getD j.toNat 0).toNat (a.getD j.toNat 0)) (j + 1) (by omega) (by omega) (by rw [show (j + 1).toNat = j.toNat + 1 by omega, List.length_append, List.length_replicate]; omega) (by omega)
    rw [show (j + 1).toNat = j.toNat + 1 by omega, List.append_assoc, ← spr_drop hc.len (by omega)] at ih
    simp only [ref_Spread_5_L, ref_Spread_5_B, one_ev]
    rw [br_pos hlt, chk_ok (by simp)]
    have h8 := rs8 (a := a) (b := b) hj (by omega) (R := (b.getD j.toNat 0).toNat) (by omega) (by omega) (α := α)
    have e2 := fun kx kr => h8 kx kr (b.getD j.toNat 0).toNat top 0 l (by omega) (by omega) (by rw [top_eq]; omega)
    simp only [Int.natCast_zero] at e2
    rw [e2]
    have h2 : Nat.beq 2 2 = true := rfl
    simp only [h2, br_t, un_li_ev, un_i_ev, un_nil_ev, e3, one_ev]
    rw [chk_ok (by simp)]
    exact ih
theorem rspread_t {a b : List Int} (hm : ref_MayCells a b = some [.b true]) (hc : CsOk a b) (h : (spr a b).length ≤ 1000) : ref_Spread a b = some [.li (spr a b)] := by
  have hl := cs_len hc
  unfold ref_Spread ref_Spread_d
  rw [chk_ok (by simp), hm]
  simp only [out_ev, un_b_ev, un_nil_ev, Bool.not_true, br_f]
  rw [chk_ok (by simp), rs5 hc (by omega) _ _ a.length top [] 0 (by omega) (by omega) (by simp; omega) (by rw [top_eq]; omega)]
  simp only [beq00, br_t, un_li_ev, un_nil_ev, Int.toNat_zero, List.drop_zero, List.nil_append]
  rw [chk_ok (by simp)]
theorem rspread_f {a b : List Int} (hm : ref_MayCells a b = some [.b false]) : ref_Spread a b = some [.li []] := by
  unfold ref_Spread ref_Spread_d
  rw [chk_ok (by simp), hm]
  simp only [out_ev, un_b_ev, un_nil_ev, Bool.not_false, br_t]
  rw [chk_ok (by simp)]
theorem spread_f {a b : List Int} (hm : vec_May a b = some [.b false]) : vec_Spread a b = some [.li []] := by
  unfold vec_Spread vec_Spread_d
  rw [chk_ok (by simp), hm]
  simp only [out_ev, un_b_ev, un_nil_ev, Bool.not_false, br_t]
  rw [chk_ok (by simp)]
end Go.Sx.T

