import Derived.Test.YtdjnfdcoilgegaaGreatDoorPlNB
set_option linter.all false
namespace Go.Sx.T
open Go Go.Sx
def likeF (f : Int) : ByteArray := mget ByteArray.empty (ng0 true).lk (ng0 true).lv f
def dflt (f : Int) : ByteArray := mget ByteArray.empty (ng0 true).nk (ng0 true).nv f
def loF (f : Int) : Int := if f = 1 then 2 else 0
def hiF (f : Int) : Int := if f = 1 then 3 else if f = 6 then 1 else 15
theorem like_may {f : Int} (h : Ls f) : mayB f (likeF f) = true := by rcases h with rfl | rfl | rfl <;> kernel_rfl
theorem like_size {f : Int} (h : Ls f) : 1 ≤ (likeF f).size ∧ (likeF f).size ≤ 16 := by rcases h with rfl | rfl | rfl <;> exact ⟨by decide, by decide⟩
theorem default_t {f : Int} (h : Kn f) : feat_Default f = some [.s (dflt f)] := by rcases h with rfl | rfl | rfl | rfl <;> kernel_rfl
theorem limits_l {f : Int} (h : Ls f) : ∃ n, feat_limits f = some [.i n, .i (loF f), .i (hiF f)] := by rcases h with rfl | rfl | rfl <;> exact ⟨_, rfl⟩
theorem Ls.ne3 {f : Int} (h : Ls f) : f ≠ 3 := by rcases h with rfl | rfl | rfl <;> decide
def by0 (v : ByteArray) : UInt8 := v.data.toList.getD 0 0
theorem may_first {f : Int} {v : ByteArray} (hf : Ls f) (hv : v.size ≤ 1000) (h : mayB f v = true) : 1 ≤ v.size ∧ loF f ≤ ((by0 v).toNat : Int) ∧ ((by0 v).toNat : Int) ≤ hiF f := by
  have hm := may_b (f := f) hv
  rw [h] at hm
  obtain ⟨n, hl⟩ := limits_l hf
  unfold feat_May feat_May_d at hm
  rw [br_ne hf.ne3, hl] at hm
  simp only [out_ev, un_i_ev, un_b_ev, un_nil_ev, one_ev, list_l hf, Bool.not_true, br_f] at hm
  by_cases h1 : (v.size : Int) < 1
  · rw [br_pos h1] at hm; cases hm
  · rw [br_neg h1] at hm
    by_cases h2 : (v.size : Int) > n
    · rw [br_pos h2] at hm; cases hm
    · rw [br_neg h2] at hm
      obtain ⟨tp, ht⟩ : ∃ n, top = n + 1 := ⟨top - 1, by unfold top; omega⟩
      rw [ht] at hm
      rw [feat_May_8_L, feat_May_8_B, br_pos (by omega), chk_pos (by omega), one_ev] at hm
      have hb : bt v 0 = ((by0 v).toNat : Int) := rfl
      rw [hb] at hm
      by_cases g1 : ((by0 v).toNat : Int) < loF f
      · rw [br_pos g1, un_b_ev, un_nil_ev] at hm; cases hm
      · rw [br_neg g1, chk_pos (by omega), one_ev] at hm
        by_cases g2 : ((by0 v).toNat : Int) > hiF f
        · rw [br_pos g2, un_b_ev, un_nil_ev] at hm; cases hm
        · exact ⟨by omega, by omega, by omega⟩
theorem may_win {v : ByteArray} (hv : v.size ≤ 1000) (h : mayB 3 v = true) : v.size = 6 := by
  have hm := may_b (f := 3) hv
  rw [h] at hm
  obtain ⟨n, m, e⟩ := number_t hv
  unfold feat_May feat_May_d at hm
  rw [br_eq rfl, e] at hm
  simp only [out_ev, un_i_ev, un_b_ev, un_nil_ev, one_ev] at hm
  by_cases h6 : (v.size : Int) = 6
  · omega
  · rw [br_ne h6] at hm; cases hm
theorem like_has {f : Int} (hf : Ls f) {b : UInt8} (h0 : loF f ≤ (b.toNat : Int)) (h1 : (b.toNat : Int) ≤ hiF f) : ∃ j, j < (likeF f).size ∧ (likeF f).data.toList.getD j 0 = b := by
  have hb : b = UInt8.ofNat b.toNat := (UInt8.ofNat_toNat).symm
  generalize b.toNat = n at *
  subst hb
  rcases hf with rfl | rfl | rfl
  · simp only [loF, hiF, if_true] at h0 h1
    have : n = 2 ∨ n = 3 := by omega
    rcases this with rfl | rfl
    · exact ⟨0, by decide, by decide⟩
    · exact ⟨1, by decide, by decide⟩
  · simp only [loF, hiF] at h0 h1
    have : n = 0 ∨ n = 1 := by simp at h1; omega
    rcases this with rfl | rfl
    · exact ⟨0, by decide, by decide⟩
    · exact ⟨1, by decide, by decide⟩
  · have h15 : n ≤ 15 := by simp [hiF] at h1; omega
    have : n = 0 ∨ n = 1 ∨ n = 2 ∨ n = 3 ∨ n = 4 ∨ n = 5 ∨ n = 6 ∨ n = 7 ∨ n = 8 ∨ n = 9 ∨ n = 10 ∨ n = 11 ∨ n = 12 ∨ n = 13 ∨ n = 14 ∨ n = 15 := by omega
    rcases this with rfl | rfl | rfl | rfl | rfl | rfl | rfl | rfl | rfl | rfl | rfl | rfl | rfl | rfl | rfl | rfl
    · exact ⟨0, by decide, by decide⟩
    · exact ⟨1, by decide, by decide⟩
    · exact ⟨2, by decide, by decide⟩
    · exact ⟨3, by decide, by decide⟩
    · exact ⟨4, by decide, by decide⟩
    · exact ⟨5, by decide, by decide⟩
    · exact ⟨6, by decide, by decide⟩
    · exact ⟨7, by decide, by decide⟩
    · exact ⟨8, by decide, by decide⟩
    · exact ⟨9, by decide, by decide⟩
    · exact ⟨10, by decide, by decide⟩
    · exact ⟨11, by decide, by decide⟩
    · exact ⟨12, by decide, by decide⟩
    · exact ⟨13, by decide, by decide⟩
    · exact ⟨14, by decide, by decide⟩
    · exact ⟨15, by decide, by decide⟩
theorem fi_some {A B : List UInt8} : ∀ (m i j : Nat), i ≤ j → j < i + m → B.contains (A.getD j 0) = true → ∃ j', fi A B m i = some j' ∧ i ≤ j' ∧ j' < i + m ∧ B.contains (A.getD j' 0) = true
  | 0, i, j, h0, h1, h => by omega
  | m + 1, i, j, h0, h1, h => by
    unfold fi
    cases hc : B.contains (A.getD i 0)
    · rw [cond_false]
      obtain ⟨j', g1, g2, g3, g4⟩ := fi_some (A := A) (B := B) m (i + 1) j (by
        rcases Nat.lt_or_ge i j with x | x
        · omega
        · have : i = j := by omega
          subst this
          rw [hc] at h; cases h) (by omega) h
      exact ⟨j', g1, by omega, by omega, g4⟩
    · rw [cond_true]
      exact ⟨i, rfl, by omega, by omega, hc⟩
theorem choose_l {f : Int} {a b : ByteArray} (hf : Ls f) (ha : a.size ≤ 1000) (hb : b.size ≤ 1000) (ma : mayB f a = true) (mb : mayB f b = true) {j : Nat} (hj : fi a.data.toList b.data.toList a.size 0 = some j) :
    feat_Choose f a b = some [.s (slc a j), .b true] := by
  unfold feat_Choose feat_Choose_d
  simp only [br_ne hf.ne3, may_b ha, may_b hb, ma, mb, out_ev, un_b_ev, un_nil_ev, Bool.not_true, br_f, one_ev]
  have q := fun kx kr => choose_L (b := b) ha (α := List Leaf) kx kr a.size top 0 (by omega) (by unfold top; omega)
  rw [hj, show ((0 : Nat) : Int) = 0 from rfl] at q
  rw [q]
  simp only [un_s_ev, un_b_ev, un_nil_ev]
theorem choose_no {f : Int} {a b : ByteArray} (hf : Ls f) (ha : a.size ≤ 1000) (hb : b.size ≤ 1000) (h : mayB f a = false ∨ mayB f b = false) :
    feat_Choose f a b = some [.s ({ data := #[] } : ByteArray), .b false] := by
  unfold feat_Choose feat_Choose_d
  simp only [br_ne hf.ne3, may_b ha, may_b hb, out_ev, un_b_ev, un_nil_ev]
  cases ma : mayB f a
  · rw [Bool.not_false, br_t]
  · rw [Bool.not_true, br_f]
    rcases h with h | h
    · rw [ma] at h; cases h
    · rw [h, Bool.not_false, br_t]
theorem choose_w {a b : ByteArray} (hb : b.size ≤ 1000) : feat_Choose 3 a b = bif mayB 3 b then some [.s b, .b true] else some [.s ({ data := #[] } : ByteArray), .b false] := by
  unfold feat_Choose feat_Choose_d
  rw [br_eq rfl]
  simp only [may_b hb, out_ev, un_b_ev, un_nil_ev]
  cases mayB 3 b
  · rw [Bool.not_false, br_t, cond_false]
  · rw [Bool.not_true, br_f, cond_true]
theorem slc_size {a : ByteArray} {j : Nat} (h : j < a.size) : (slc a j).size = 1 := by
  show (a.extract ((j : Int)).toNat (((j + 1 : Nat) : Int)).toNat).size = 1
  rw [ByteArray.size_extract, Int.toNat_natCast, Int.toNat_natCast]
  omega
theorem slc_0 {a : ByteArray} {j : Nat} (h : j < a.size) : (slc a j).data.toList.getD 0 0 = a.data.toList.getD j 0 := by
  show ((a.extract ((j : Int)).toNat (((j + 1 : Nat) : Int)).toNat)).data.toList.getD 0 0 = _
  rw [Int.toNat_natCast, Int.toNat_natCast, ByteArray.data_extract, Array.toList_extract]
  have hl : j < a.data.toList.length := by rw [size_l]; exact h
  rw [List.getD_eq_getElem?_getD, List.getD_eq_getElem?_getD]
  congr 1
  rw [List.extract_eq_take_drop]
  simp [List.getElem?_take, List.getElem?_drop]
theorem getD_mem {l : List UInt8} {j : Nat} (h : j < l.length) : l.contains (l.getD j 0) = true := by
  rw [List.getD_eq_getElem?_getD, List.getElem?_eq_getElem h]
  exact List.contains_iff_mem.2 (List.getElem_mem h)
theorem hd_app {a b : ByteArray} (h : a.size = 1) : hd1 (a ++ b) = a := by
  show (a ++ b).extract (0 : Int).toNat (1 : Int).toNat = a
  have := ByteArray.extract_append_eq_left (a := a) (b := b) (i := a.size) rfl
  rw [h] at this
  exact this
theorem app_0 {a b : ByteArray} (h : a.size = 1) : (a ++ b).data.toList.getD 0 0 = a.data.toList.getD 0 0 := by
  rw [ByteArray.data_append, Array.toList_append]
  have hl : a.data.toList.length = 1 := by rw [size_l]; exact h
  rw [List.getD_eq_getElem?_getD, List.getD_eq_getElem?_getD, List.getElem?_append_left (by omega)]
end Go.Sx.T

