import Derived.Test.YtfcaemjklnelhaaGreatDoorPlCe
set_option linter.all false
namespace Go.Sx.T
open Go Go.Sx
theorem range_part (l : List Int) (x : Nat) : (List.range (min 253 (l.length - 253 * x))).map (fun j => l.getD (253 * x + j) 0) = (l.drop (253 * x)).take 253 := by
  apply List.ext_getElem
  · simp
  · intro i h1 h2
    simp only [List.length_map, List.length_range] at h1
    simp only [List.getElem_map, List.getElem_range, List.getElem_take, List.getElem_drop]
    rw [List.getD_eq_getElem?_getD, List.getElem?_eq_getElem (by omega), Option.getD_some]
theorem putB_v {s r : Int} (hs : St s) (h1 : 1 ≤ r) (h2 : r ≤ 64) : putB s r = s * 64 + r - 1 := by
  have hb : 0 ≤ s ∧ s ≤ 3 := by rcases hs with rfl | rfl | rfl <;> omega
  unfold putB
  rw [mulI_i (by unfold I63; omega), addI_i (by unfold I63; omega), subI_i (by unfold I63; omega), wrapI_u8, Int.emod_eq_of_lt (by omega) (by omega)]
def pb (a b : List Int) (x : Nat) : List Int := (List.range (min 253 (a.length - 253 * x))).map fun j => a.getD (253 * x + j) 0 * 64 + b.getD (253 * x + j) 0 - 1
theorem cs_nat {a b : List Int} (hc : CsOk a b) {j : Nat} (hj : j < a.length) : St (a.getD j 0) ∧ 1 ≤ b.getD j 0 ∧ b.getD j 0 ≤ 64 := by
  have := hc.at (j := (j : Int)) (by omega) (by omega)
  simpa using this
theorem putT_pb {a b : List Int} (hc : CsOk a b) (x : Nat) : putT a b x = strOfI (pb a b x) := by
  unfold putT pb
  congr 1
  apply List.map_congr_left
  intro j hj
  have hj' := List.mem_range.1 hj
  obtain ⟨p1, p2, p3⟩ := cs_nat hc (j := 253 * x + j) (by omega)
  exact putB_v p1 p2 p3
theorem pb_byte {a b : List Int} (hc : CsOk a b) (x : Nat) : ∀ y ∈ pb a b x, 0 ≤ y ∧ y < 256 := by
  intro y hy
  simp only [pb, List.mem_map, List.mem_range] at hy
  obtain ⟨j, hj, rfl⟩ := hy
  obtain ⟨p1, p2, p3⟩ := cs_nat hc (j := 253 * x + j) (by omega)
  rcases p1 with e | e | e <;> rw [e] <;> omega
theorem gB_put {a b : List Int} (hc : CsOk a b) (x : Nat) : gBy (putT a b x) = pb a b x := by
  rw [putT_pb hc, gB_str _ (pb_byte hc x)]
theorem pb_len (a b : List Int) (x : Nat) : (pb a b x).length = min 253 (a.length - 253 * x) := by simp [pb]
theorem size_put {a b : List Int} (hc : CsOk a b) (x : Nat) : (putT a b x).size = min 253 (a.length - 253 * x) := by
  rw [← gB_len, gB_put hc, pb_len]
theorem gok_pb {a b : List Int} (hc : CsOk a b) (x : Nat) : gok (pb a b x) = true := by
  simp only [gok, pb, List.all_map, List.all_eq_true, List.mem_range, Function.comp]
  intro j hj
  obtain ⟨p1, p2, p3⟩ := cs_nat hc (j := 253 * x + j) (by omega)
  simp only [bne_iff_ne]
  rcases p1 with e | e | e <;> rw [e] <;> omega
theorem get_put {a b : List Int} (hc : CsOk a b) (x : Nat) : vec_Get (putT a b x) = some [.li ((a.drop (253 * x)).take 253), .li ((b.drop (253 * x)).take 253), .b true] := by
  have hl := hc.len
  rw [get_t (by rw [size_put hc]; omega), gB_put hc, gres, if_pos (gok_pb hc x), ← range_part a, ← range_part b, hl]
  have e0 : (pb a b x).map (· / 64) = (List.range (min 253 (a.length - 253 * x))).map fun j => a.getD (253 * x + j) 0 := by
    rw [pb, List.map_map]
    apply List.map_congr_left
    intro j hj
    have hj' := List.mem_range.1 hj
    obtain ⟨p1, p2, p3⟩ := cs_nat hc (j := 253 * x + j) (by omega)
    simp only [Function.comp]; omega
  have e1 : (pb a b x).map (· % 64 + 1) = (List.range (min 253 (a.length - 253 * x))).map fun j => b.getD (253 * x + j) 0 := by
    rw [pb, List.map_map]
    apply List.map_congr_left
    intro j hj
    have hj' := List.mem_range.1 hj
    obtain ⟨p1, p2, p3⟩ := cs_nat hc (j := 253 * x + j) (by omega)
    simp only [Function.comp]; omega
  rw [e0, e1]
def putL (a b : List Int) : List ByteArray := (List.range ((a.length + 252) / 253)).map (putT a b)
theorem putL_len (a b : List Int) : (putL a b).length = (a.length + 252) / 253 := by simp [putL]
theorem putL_at {a b : List Int} {j : Nat} (h : j < (a.length + 252) / 253) : (putL a b).getD j ByteArray.empty = putT a b j := by
  rw [List.getD_eq_getElem?_getD, List.getElem?_eq_getElem (by rw [putL_len]; exact h)]
  simp [putL]
theorem put_t {a b : List Int} (hm : vec_May a b = some [.b true]) (hl : a.length ≤ 1000000) : vec_Put a b = some [.ls (putL a b)] := by
  unfold vec_Put
  rw [hm]
  simp only []
  rw [Nat.ble_eq_true_of_le (by omega)]
  rfl
theorem put_f {a b : List Int} (hm : vec_May a b = some [.b false]) : vec_Put a b = some [.ls []] := by
  unfold vec_Put
  rw [hm]
theorem take_more (l : List Int) (j : Nat) : l.take (253 * j) ++ (l.drop (253 * j)).take 253 = l.take (253 * (j + 1)) := by
  rw [show 253 * (j + 1) = 253 * j + 253 by omega, List.take_add]
end Go.Sx.T

