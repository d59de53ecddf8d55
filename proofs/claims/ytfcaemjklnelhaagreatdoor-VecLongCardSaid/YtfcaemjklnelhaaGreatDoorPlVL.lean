import Derived.Test.YtfcaemjklnelhaaGreatDoorPlPt
import Derived.Test.YtfcaemjklnelhaaGreatDoorYVLSpec
set_option linter.all false
namespace Go.Sx.T
open Go Go.Sx
theorem br_ne' {α : Type} {a b : Int} (h : a = b) (x y : Option α) : br (a != b) x y = y := by rw [h, bne_self_eq_false]; exact br_f x y
theorem vgetS3 {N : Int} (h0 : 0 ≤ N) (h1 : N < 3) : St (List.getD [(0 : Int), 1, 3] N.toNat 0) := by
  have hc : N = 0 ∨ N = 1 ∨ N = 2 := by omega
  rcases hc with rfl | rfl | rfl
  · exact .inl rfl
  · exact .inr (.inl rfl)
  · exact .inr (.inr rfl)
theorem vl7 {s N : Int} (hN : N ≤ 1000) : ∀ (m n : Nat) (a b : List Int) (i : Int), 0 ≤ i → i + m = N → (a.length : Int) = i → CsOk a b → (∀ r ∈ b, r = 1) → m < n →
    ∃ a' b', CsOk a' b' ∧ (∀ r ∈ b', r = 1) ∧ (a'.length : Int) = N ∧ ∀ {α : Type} (kx : Nat → List Leaf → Option α) (kr : List Leaf → Option α), VecLong_7_L kx kr n a b i s N = kx 0 [.li a', .li b', .i N]
  | 0, n, a, b, i, hi, hm, hl, hc, hb, hn => by
    obtain ⟨n, rfl⟩ : ∃ n', n = n' + 1 := ⟨n - 1, by omega⟩
    refine ⟨a, b, hc, hb, by omega, fun kx kr => ?_⟩
    simp only [VecLong_7_L, VecLong_7_B]
    rw [br_neg (by omega), chk_ok (by simp)]
  | m + 1, n, a, b, i, hi, hm, hl, hc, hb, hn => by
    obtain ⟨n, rfl⟩ : ∃ n', n = n' + 1 := ⟨n - 1, by omega⟩
    have e3 : addI .i64 i 1 = i + 1 := addI_i (by unfold I63; omega)
    obtain ⟨M, hM0, hM1, eM⟩ := rem_N (m := 3) (by decide) (by decide) (addI .i64 s i)
    have hst := vgetS3 hM0 hM1
    have hc' : CsOk (a ++ [List.getD [(0 : Int), 1, 3] M.toNat 0]) (b ++ [1]) := by
      refine ⟨by simp [hc.len], fun x hx => ?_, fun x hx => ?_⟩
      · rcases List.mem_append.1 hx with h | h
        · exact hc.st x h
        · rw [List.mem_singleton.1 h]; exact hst
      · rcases List.mem_append.1 hx with h | h
        · exact hc.run x h
        · rw [List.mem_singleton.1 h]; omega
    obtain ⟨a', b', h1, h2, h3, h4⟩ := vl7 (s := s) hN m n _ _ (i + 1) (by omega) (by omega) (by simp; omega) hc' (fun x hx => by
      rcases List.mem_append.1 hx with h | h
      · exact hb x h
      · exact List.mem_singleton.1 h) (by omega)
    refine ⟨a', b', h1, h2, h3, fun kx kr => ?_⟩
    simp only [VecLong_7_L, VecLong_7_B, one_ev, e3, eM]
    rw [br_pos (by omega), chk_pos ⟨hM0, hM1⟩, chk_pos ⟨hM0, hM1⟩, chk_ok (room16 (by omega)), chk_ok (by simp)]
    exact h4 kx kr
theorem spr_ones : ∀ {a b : List Int}, b.length = a.length → (∀ r ∈ b, r = 1) → (spr a b).length = a.length
  | [], b, h, _ => by
    obtain rfl := List.eq_nil_of_length_eq_zero h
    rfl
  | s :: a, [], h, _ => by simp at h
  | s :: a, r :: b, h, hb => by
    have := spr_ones (a := a) (b := b) (by simpa using h) (fun x hx => hb x (by simp [hx]))
    obtain rfl := hb r (by simp)
    simp [spr, this]
theorem room16b {j k : Nat} (h : j + k ≤ 1000000) : (decide True && decide True && decide ((Int.ofNat j + Int.ofNat k) * (↑(nat_lit 16) : Int) ≤ (140737488355328 : Int) ∧ Int.ofNat j + Int.ofNat k ≤ (4611686018427387904 : Int))) = true := by
  simp only [decide_true, Bool.true_and, decide_eq_true_eq, Int.ofNat_eq_natCast]
  constructor <;> omega
theorem vl15 {a b : List Int} (hc : CsOk a b) (hl : a.length ≤ 1000) {α : Type} (kx : Nat → List Leaf → Option α) (kr : List Leaf → Option α) : ∀ (m n : Nat) (j : Nat), j + m = (a.length + 252) / 253 → m < n →
    VecLong_15_L kx kr n (a.take (253 * j)) (b.take (253 * j)) (putL a b) a b (j : Int) (Int.ofNat (putL a b).length) = kx 2 [.li a, .li b, .li a, .li b]
  | 0, n, j, hm, hn => by
    obtain ⟨n, rfl⟩ : ∃ n', n = n' + 1 := ⟨n - 1, by omega⟩
    have hlb := hc.len
    simp only [VecLong_15_L, VecLong_15_B]
    rw [putL_len, br_neg (by simp; omega), chk_ok (by simp), List.take_of_length_le (by omega), List.take_of_length_le (by omega)]
  | m + 1, n, j, hm, hn => by
    obtain ⟨n, rfl⟩ : ∃ n', n = n' + 1 := ⟨n - 1, by omega⟩
    have hlb := hc.len
    have ih := vl15 hc hl kx kr m n (j + 1) (by omega) (by omega)
    have hj : j < (a.length + 252) / 253 := by omega
    have hlt : (j : Int) < Int.ofNat (putL a b).length := by rw [putL_len]; simp; omega
    have hin : (0 : Int) ≤ (j : Int) ∧ (j : Int) < Int.ofNat (putL a b).length := ⟨by omega, hlt⟩
    have e3 : addI .i64 (j : Int) 1 = ((j + 1 : Nat) : Int) := by rw [addI_i (by unfold I63; omega)]; rfl
    have hsz := size_put hc j
    have e4 : subI .i64 (Int.ofNat (putL a b).length) 1 = (((a.length + 252) / 253 : Nat) : Int) - 1 := by
      rw [putL_len, subI_i (by unfold I63; simp; omega)]; rfl
    simp only [VecLong_15_L, VecLong_15_B, one_ev, e3, e4, Int.toNat_natCast, putL_at hj, hsz]
    rw [br_pos hlt]
    by_cases hlast : (j : Int) < (((a.length + 252) / 253 : Nat) : Int) - 1
    · rw [br_pos hlast]
      simp only [chk_pos hin]
      rw [br_ne' (by omega), br_neg (by omega), br_neg (by omega), get_put hc]
      simp only [out_ev, un_li_ev, un_b_ev, un_nil_ev, Bool.not_true, br_f]
      rw [chk_ok (room16b (by simp; omega)), chk_ok (by simp), take_more, take_more]
      exact ih
    · rw [br_neg hlast]
      simp only [chk_pos hin]
      rw [br_neg (by omega), br_neg (by omega), get_put hc]
      simp only [out_ev, un_li_ev, un_b_ev, un_nil_ev, Bool.not_true, br_f]
      rw [chk_ok (room16b (by simp; omega)), chk_ok (by simp), take_more, take_more]
      exact ih
theorem VecLong_true (n2 s : Int) : VecLong n2 s = some [.b true] := by
  unfold VecLong VecLong_d
  obtain ⟨N, hN0, hN1, eN⟩ := rem_N (m := 1001) (by decide) (by decide) n2
  simp only [one_ev, eN]
  rw [chk_ok (by simp)]
  obtain ⟨a, b, hc, hb, hl, h7⟩ := vl7 (s := s) (N := N) (by omega) N.toNat top [] [] 0 (by omega) (by omega) rfl CsOk.nil (by simp) (by rw [top_eq]; omega)
  have hsp := spr_ones hc.len hb
  rw [h7]
  simp only [beq00, br_t, un_li_ev, un_i_ev, un_nil_ev]
  rw [chk_ok (by simp), put_t (may_t hc (by omega)) (by omega)]
  simp only [out_ev, un_ls_ev, un_nil_ev]
  have e1 : addI .i64 N 252 = N + 252 := addI_i (by unfold I63; omega)
  rw [e1, quoI_n (by omega) (by omega) (by decide), putL_len, br_ne' (by simp; omega), chk_ok (by simp)]
  rw [← putL_len a b]
  have h15 := vl15 hc (by omega) (α := List Leaf)
  have e2 := fun kx kr => h15 kx kr ((a.length + 252) / 253) top 0 (by omega) (by rw [top_eq]; omega)
  simp only [Nat.mul_zero, List.take_zero, Int.natCast_zero] at e2
  rw [e2]
  have h2 : Nat.beq 2 2 = true := rfl
  simp only [h2, br_t, un_li_ev, un_nil_ev]
  rw [chk_ok (by simp), cells_refl (by omega)]
  simp only [out_ev, un_b_ev, un_nil_ev]
end Go.Sx.T

