import Derived.Test.YtfcaemjklnelhaaGreatDoorPlVV
set_option linter.all false
namespace Go.Sx.T
open Go Go.Sx
theorem vbeq (s : ByteArray) : (s == s) = true := by
  cases s with
  | mk d =>
    show ByteArray.beq ⟨d⟩ ⟨d⟩ = true
    simp [ByteArray.beq]
theorem vsize_cut {s : ByteArray} {n : Nat} : (strSlO s Option.none (Option.some (n : Int))).size ≤ n := by
  show (s.extract (Int.toNat 0) (Int.toNat (n : Int))).size ≤ n
  rw [ByteArray.size_extract]
  simp
  omega
theorem vtext_n (s : ByteArray) (n : Nat) : ∃ d, d.size ≤ n ∧ law1_Text s (n : Int) = some [.s d] := by
  refine ⟨strSlO s Option.none (Option.some ((min s.size n : Nat) : Int)), Nat.le_trans vsize_cut (by omega), ?_⟩
  have e : minI (s.size : Int) (n : Int) = ((min s.size n : Nat) : Int) := by rw [minI_eq]; omega
  unfold law1_Text
  simp only [one_ev, e]
  have c : condSl (s.size : Int) Option.none (Option.some ((min s.size n : Nat) : Int)) = true := by
    show decide ((0 : Int) ≤ ((min s.size n : Nat) : Int) ∧ ((min s.size n : Nat) : Int) ≤ (s.size : Int)) = true
    exact decide_eq_true (by omega)
  rw [c, chk_t]
theorem room16c {j k : Nat} (h : j + k ≤ 1000000) : (decide True && decide True && decide ((Int.ofNat j + Int.ofNat k) * (↑(nat_lit 16) : Int) ≤ (140737488355328 : Int) ∧ Int.ofNat j + Int.ofNat k ≤ (4611686018427387904 : Int))) = true := by
  simp only [decide_true, Bool.true_and, decide_eq_true_eq, Int.ofNat_eq_natCast]
  constructor <;> omega
theorem va11 {c0 c1 st a b : List Int} {may : Bool} {o nn : Int} {tb : ByteArray} (hc : CsOk a b) (hl : a.length ≤ 1000) {α : Type} (kx : Nat → List Leaf → Option α) (kr : List Leaf → Option α) : ∀ (m n : Nat) (j : Nat), j + m = (a.length + 252) / 253 → m < n →
    VecAll_11_L kx kr n c0 c1 st (a.take (253 * j)) (b.take (253 * j)) (putL a b) (putL a b) (j : Int) may o nn tb (Int.ofNat (putL a b).length) = kx 0 [.li c0, .li c1, .li st, .ls (putL a b), .li a, .li b, .b may, .i o, .i nn, .s tb]
  | 0, n, j, hm, hn => by
    obtain ⟨n, rfl⟩ : ∃ n', n = n' + 1 := ⟨n - 1, by omega⟩
    have hlb := hc.len
    simp only [VecAll_11_L, VecAll_11_B]
    rw [putL_len, br_neg (by simp; omega), chk_ok (by simp), List.take_of_length_le (by omega), List.take_of_length_le (by omega)]
  | m + 1, n, j, hm, hn => by
    obtain ⟨n, rfl⟩ : ∃ n', n = n' + 1 := ⟨n - 1, by omega⟩
    have hlb := hc.len
    have ih := va11 (c0 := c0) (c1 := c1) (st := st) (may := may) (o := o) (nn := nn) (tb := tb) hc hl kx kr m n (j + 1) (by omega) (by omega)
    have hj : j < (a.length + 252) / 253 := by omega
    have hlt : (j : Int) < Int.ofNat (putL a b).length := by rw [putL_len]; simp; omega
    have hin : (0 : Int) ≤ (j : Int) ∧ (j : Int) < Int.ofNat (putL a b).length := ⟨by omega, hlt⟩
    have e3 : addI .i64 (j : Int) 1 = ((j + 1 : Nat) : Int) := by rw [addI_i (by unfold I63; omega)]; rfl
    simp only [VecAll_11_L, VecAll_11_B, one_ev, e3, Int.toNat_natCast, putL_at hj]
    rw [br_pos hlt]
    simp only [chk_pos hin]
    rw [get_put hc]
    simp only [out_ev, un_li_ev, un_b_ev, un_nil_ev, vbeq, Bool.not_true, br_f]
    rw [chk_ok (room16c (by simp; omega)), chk_ok (by simp), take_more, take_more]
    exact ih
theorem va24 {c0 c1 st c : List Int} {l : List ByteArray} {may : Bool} (hl : c.length ≤ 1000000) {α : Type} (kx : Nat → List Leaf → Option α) (kr : List Leaf → Option α) : ∀ (m n : Nat) (j : Int), 0 ≤ j → j + m = (c.length : Int) → m < n →
    VecAll_24_L kx kr n c0 c1 st c c l j may (Int.ofNat c.length) = kx 2 [.li c0, .li c1, .li st, .ls l, .b may]
  | 0, n, j, hj, hm, hn => by
    obtain ⟨n, rfl⟩ : ∃ n', n = n' + 1 := ⟨n - 1, by omega⟩
    simp only [VecAll_24_L, VecAll_24_B]
    rw [br_neg (by simp; omega), chk_ok (by simp)]
  | m + 1, n, j, hj, hm, hn => by
    obtain ⟨n, rfl⟩ : ∃ n', n = n' + 1 := ⟨n - 1, by omega⟩
    have hlt : j < Int.ofNat c.length := by simp; omega
    have hin : (0 : Int) ≤ j ∧ j < Int.ofNat c.length := ⟨hj, hlt⟩
    have e3 : addI .i64 j 1 = j + 1 := addI_i (by unfold I63; omega)
    have ih := va24 (c0 := c0) (c1 := c1) (st := st) (l := l) (may := may) hl kx kr m n (j + 1) (by omega) (by omega) (by omega)
    simp only [VecAll_24_L, VecAll_24_B, one_ev, e3]
    rw [br_pos hlt]
    simp only [chk_pos hin, bne_self_eq_false, br_f]
    rw [chk_ok (by simp)]
    exact ih
theorem gres_form (l : List Int) : ∃ x y r, x.length ≤ l.length ∧ gres l = [.li x, .li y, .b r] := by
  unfold gres
  by_cases h : gok l = true
  · exact ⟨l.map (· / 64), l.map (· % 64 + 1), true, by simp, by rw [if_pos h]⟩
  · exact ⟨[], [], false, by simp, by rw [if_neg h]⟩
theorem VecAll_true {cs0 cs1 states : List Int} {b : ByteArray} (h0 : ∀ x ∈ cs0, I63 x) (h1 : ∀ x ∈ cs1, I63 x) (hl : cs1.length = cs0.length) : VecAll cs0 cs1 states b = some [.b true] := by
  obtain ⟨tb, htb, etb⟩ : ∃ d, d.size ≤ 40 ∧ law1_Text b 40 = some [.s d] := vtext_n b 40
  obtain ⟨k, hk⟩ : ∃ k, k = min cs0.length 600 := ⟨_, rfl⟩
  obtain ⟨q, hq⟩ : ∃ q, q = min states.length 300 := ⟨_, rfl⟩
  have e1 : minI (Int.ofNat cs0.length) 600 = (k : Int) := by rw [minI_eq]; simp; omega
  have e2 : minI (Int.ofNat states.length) 300 = (q : Int) := by rw [minI_eq]; simp; omega
  have ed : ∀ l : List Int, List.drop (Int.toNat (Int.ofNat (nat_lit 0))) l = l := fun l => rfl
  have ed' : ∀ l : List Int, List.drop (Int.toNat (Int.ofNat 0)) l = l := fun l => rfl
  have hA : (cs0.take k).length = k := by simp; omega
  have hB : (cs1.take k).length = (cs0.take k).length := by simp; omega
  have c1 : condSl (rlOf [[Col.int .i64 cs0, Col.int .i64 cs1], [Col.int .i64 states]] (0 : Nat)) Option.none (Option.some (k : Int)) = true := by
    show decide ((0 : Int) ≤ (k : Int) ∧ (k : Int) ≤ (cs0.length : Int)) = true
    exact decide_eq_true (by omega)
  have c2 : condSl (rlOf [[Col.int .i64 cs0, Col.int .i64 cs1], [Col.int .i64 states]] (1 : Nat)) Option.none (Option.some (q : Int)) = true := by
    show decide ((0 : Int) ≤ (q : Int) ∧ (q : Int) ≤ (states.length : Int)) = true
    exact decide_eq_true (by omega)
  have c3 : (decide (Int.ofNat (nat_lit 0) + (k : Int) ≤ Int.ofNat cs0.length)) = true := decide_eq_true (by
    show (0 : Int) + (k : Int) ≤ (cs0.length : Int)
    omega)
  have c3' : (decide (Int.ofNat 0 + (k : Int) ≤ Int.ofNat cs0.length)) = true := c3
  have c4 : (decide ((k : Int) = Int.ofNat (cs0.take k).length) && true) = true := by rw [hA]; simp
  have c5 : (decide (Int.ofNat (nat_lit 0) + (q : Int) ≤ Int.ofNat states.length)) = true := decide_eq_true (by
    show (0 : Int) + (q : Int) ≤ (states.length : Int)
    omega)
  have c6 : (decide ((q : Int) = Int.ofNat (states.take q).length) && true) = true := by
    have : (states.take q).length = q := by simp; omega
    rw [this]; simp
  obtain ⟨oa, ob, hoa, eo1, eo2⟩ := of_same (l := states.take q) (by simp; omega)
  have hoa' : oa.length ≤ 1000000 := by
    have : (states.take q).length = q := by simp; omega
    omega
  obtain ⟨gx, gy, gr, hgx, eg⟩ := gres_form (gBy tb)
  rw [gB_len] at hgx
  have eg1 : vec_Get tb = some [.li gx, .li gy, .b gr] := by rw [get_t (by omega), eg]
  have eg2 : ref_GetVector tb = some [.li gx, .li gy, .b gr] := by rw [rget_t (by omega), eg]
  have h2 : Nat.beq 2 2 = true := rfl
  unfold VecAll VecAll_d
  simp only [one_ev, e1, e2, c1, c2, c3, c3', c5, chk_t, etb, out_ev, un_s_ev, un_nil_ev, ed, ed', Int.toNat_natCast, c4, c6, eo1, eo2]
  rcases may_cases hB with ⟨m1, m2⟩ | ⟨m1, m2, hc, hsp⟩
  · simp only [m1, m2, put_f m1, rvector_f m2, out_ev, un_b_ev, un_ls_ev, un_nil_ev, beq_self_eq_true, Bool.not_true, br_f, List.length_nil, bne_self_eq_false, un_li_ev]
    rw [chk_ok (by simp), cells_refl hoa']
    simp only [out_ev, un_b_ev, un_nil_ev, Bool.not_true, br_f]
    have e11 : ∀ (kx : Nat → List Leaf → Option (List Leaf)) (kr : List Leaf → Option (List Leaf)), VecAll_11_L kx kr top cs0 cs1 states [] [] [] [] 0 false (Int.ofNat 0) (k : Int) tb (Int.ofNat 0) = kx 0 [.li cs0, .li cs1, .li states, .ls [], .li [], .li [], .b false, .i (Int.ofNat 0), .i (k : Int), .s tb] := by
      intro kx kr
      obtain ⟨n, hn⟩ : ∃ n, top = n + 1 := ⟨999999999999999999999999, rfl⟩
      rw [hn]
      simp only [VecAll_11_L, VecAll_11_B]
      rw [br_neg (by simp), chk_ok (by simp)]
    rw [chk_ok (by simp), e11]
    simp only [beq00, br_t, un_li_ev, un_ls_ev, un_b_ev, un_i_ev, un_s_ev, un_nil_ev, eg1, eg2, out_ev, c3, c3', chk_t, ed, ed', Int.toNat_natCast, c4, spread_f m1, rspread_f m2, bne_self_eq_false, br_f, beq_self_eq_true, Bool.not_true, one_ev, List.length_nil]
    rw [chk_ok (by simp), cells_refl (by omega)]
    simp only [out_ev, un_b_ev, un_nil_ev, Bool.not_true, br_f]
    rw [chk_ok (by simp)]
    have e24 := fun kx kr => va24 (c0 := cs0) (c1 := cs1) (st := states) (c := []) (l := []) (may := false) (α := List Leaf) (by simp) kx kr 0 top 0 (by omega) (by simp) (by rw [top_eq]; omega)
    simp only [List.length_nil] at e24
    rw [e24]
    simp only [h2, br_t, br_f, un_li_ev, un_ls_ev, un_b_ev, un_nil_ev, one_ev, List.length_nil]
    rfl
  · simp only [m1, m2, put_t m1 (show (cs0.take k).length ≤ 1000000 by omega), rvector_t m2 (show (cs0.take k).length ≤ 600 by omega), out_ev, un_b_ev, un_ls_ev, un_nil_ev, beq_self_eq_true, Bool.not_true, br_f, bne_self_eq_false, un_li_ev]
    rw [chk_ok (by simp), cells_refl hoa']
    simp only [out_ev, un_b_ev, un_nil_ev, Bool.not_true, br_f]
    have e11 := fun kx kr => va11 (c0 := cs0) (c1 := cs1) (st := states) (may := true) (o := Int.ofNat 0) (nn := (k : Int)) (tb := tb) (α := List Leaf) hc (by omega) kx kr (((cs0.take k).length + 252) / 253) top 0 (by omega) (by rw [top_eq]; omega)
    simp only [Nat.mul_zero, List.take_zero, Int.natCast_zero] at e11
    rw [chk_ok (by simp), e11]
    simp only [beq00, br_t, un_li_ev, un_ls_ev, un_b_ev, un_i_ev, un_s_ev, un_nil_ev, eg1, eg2, out_ev, c3, c3', chk_t, ed, ed', Int.toNat_natCast, c4, spread_t hc hsp, rspread_t m2 hc hsp, bne_self_eq_false, br_f, beq_self_eq_true, Bool.not_true, one_ev]
    rw [chk_ok (by simp), cells_refl (by omega)]
    simp only [out_ev, un_b_ev, un_nil_ev, Bool.not_true, br_f]
    rw [chk_ok (by simp), cells_refl (by omega)]
    simp only [out_ev, un_b_ev, un_nil_ev, Bool.not_true, br_f]
    rw [chk_ok (by simp)]
    have e24 := fun kx kr => va24 (c0 := cs0) (c1 := cs1) (st := states) (c := spr (cs0.take k) (cs1.take k)) (l := putL (cs0.take k) (cs1.take k)) (may := true) (α := List Leaf) (by omega) kx kr (spr (cs0.take k) (cs1.take k)).length top 0 (by omega) (by omega) (by rw [top_eq]; omega)
    rw [e24]
    simp only [h2, br_t, un_li_ev, un_ls_ev, un_b_ev, un_nil_ev]
end Go.Sx.T

