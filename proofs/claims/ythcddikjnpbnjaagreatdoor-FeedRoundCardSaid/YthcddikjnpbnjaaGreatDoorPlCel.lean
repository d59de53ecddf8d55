import Derived.Test.YthcddikjnpbnjaaGreatDoorPlGot
set_option linter.all false
namespace Go.Sx.T
open Go Go.Sx
theorem top_gt {n : Nat} (h : n ≤ 1000000) : n < top := by
  have : top = 1000000000000000000000000 := rfl
  omega
def cnt (nw : Int) (k : List Int) (j : Nat) : Nat := k.countP fun n => decide ((j : Int) ≤ (nw - n) % 281474976710656)
theorem cnt_step {nw : Int} (hw : 0 ≤ nw ∧ nw < 281474976710656) {j : Nat} (hj : j < 1000000) : ∀ {k : List Int}, k.Nodup → (∀ n ∈ k, 0 ≤ n ∧ n < 281474976710656) → cnt nw k j = cnt nw k (j + 1) + (bif mhas k ((nw - j) % 281474976710656) then 1 else 0)
  | [], _, _ => rfl
  | a :: k, hn, hk => by
    obtain ⟨h1, h2⟩ := List.nodup_cons.1 hn
    have ha := hk a (by simp)
    have ih := cnt_step hw hj h2 (fun n hn => hk n (by simp [hn]))
    unfold cnt at ih ⊢
    simp only [List.countP_cons, ih, mhas]
    by_cases e : a = (nw - j) % 281474976710656
    · have hd : (nw - a) % 281474976710656 = j := by omega
      have hm : mhas k ((nw - j) % 281474976710656) = false := mhas_f (fun x => h1 (e ▸ x))
      rw [hm, hd, decide_eq_true (Int.le_refl _), decide_eq_false (by omega), show (a == (nw - j) % 281474976710656) = true by simpa using e]
      simp
    · rw [beq_eq_false_iff_ne.2 e, cond_false]
      have : decide ((j : Int) ≤ (nw - a) % 281474976710656) = decide (((j + 1 : Nat) : Int) ≤ (nw - a) % 281474976710656) := by
        apply decide_eq_decide.2
        omega
      rw [this]
      omega
def stA (first top : Int) (k v : List Int) (j : Nat) : Int := bif mhas k (ky first (top - j)) then mget 0 k v (ky first (top - j)) else 3
theorem cells_L {first top : Int} {k v : List Int} (hn : k.Nodup) (hk : ∀ n ∈ k, 0 ≤ n ∧ n < 281474976710656) {J : Nat} (hJ : J ≤ 1000) (h0 : cnt (ky first top) k J = 0) (h1 : ∀ j, j < J → 0 < cnt (ky first top) k j) (hc : k.length ≤ 1000)
    {nw fg : Int} {any fgt : Bool} {α : Type} (kx : Nat → List Leaf → Option α) (kr : List Leaf → Option α) : ∀ (m n j : Nat), j + m = J → m < n →
    got_Cells_5_L kx kr n k v ((List.range j).map (stA first top k v)) nw any fg fgt (ky first (top - j)) (cnt (ky first top) k j) = kx 0 [.li k, .li v, .li ((List.range J).map (stA first top k v)), .i nw, .b any, .i fg, .b fgt]
  | 0, n, j, hj, hm => by
    obtain ⟨n, rfl⟩ : ∃ n', n = n' + 1 := ⟨n - 1, by omega⟩
    obtain rfl : j = J := by omega
    simp only [got_Cells_5_L, got_Cells_5_B, h0]
    rw [br_neg (by simp)]
    simp only [decide_true, Bool.and_true, chk_t]
  | m + 1, n, j, hj, hm => by
    obtain ⟨n, rfl⟩ : ∃ n', n = n' + 1 := ⟨n - 1, by omega⟩
    have ih := cells_L hn hk hJ h0 h1 hc (nw := nw) (fg := fg) (any := any) (fgt := fgt) (v := v) kx kr m n (j + 1) (by omega) (by omega)
    have hp := h1 j (by omega)
    have hle : cnt (ky first top) k j ≤ k.length := List.countP_le_length
    have hu := ky_U first top
    have hst := cnt_step (nw := ky first top) ⟨hu.1, by unfold ky; omega⟩ (j := j) (by omega) hn hk
    have hky : (ky first top - j) % 281474976710656 = ky first (top - j) := by unfold ky; omega
    rw [hky] at hst
    have ha : (ky first (top - j) + -1) % 281474976710656 = ky first (top - ((j + 1 : Nat) : Int)) := by unfold ky; omega
    have room : ((Int.ofNat ((List.range j).map (stA first top k v)).length + (↑(1 : Nat) : Int)) * (↑(nat_lit 8) : Int) ≤ (140737488355328 : Int) ∧ Int.ofNat ((List.range j).map (stA first top k v)).length + (↑(1 : Nat) : Int) ≤ (4611686018427387904 : Int)) := by
      simp only [Int.ofNat_eq_natCast, List.length_map, List.length_range]; constructor <;> omega
    have grown : ∀ {l : List Int} {s : Int}, decide (Int.ofNat l.length + (↑(1 : Nat) : Int) = Int.ofNat (List.length (l ++ [s]))) = true := fun {l s} => by simp
    have hr : (List.range (j + 1)).map (stA first top k v) = (List.range j).map (stA first top k v) ++ [stA first top k v j] := by simp [List.range_succ]
    rw [hr] at ih
    simp only [got_Cells_5_L, got_Cells_5_B, one_ev, add_t, out_ev, un_i_ev, un_nil_ev, decide_true, Bool.and_true, Bool.true_and, chk_t, room, grown, and_self, ha]
    rw [br_pos (show (0 : Int) < (cnt (ky first top) k j : Int) by omega)]
    cases hh : mhas k (ky first (top - j))
    · have e1 : stA first top k v j = 3 := by unfold stA; rw [hh]; rfl
      rw [hh, cond_false, Nat.add_zero] at hst
      rw [e1, ← hst] at ih
      simp only [Bool.not_false, br_t]
      exact ih
    · have e1 : stA first top k v j = mget 0 k v (ky first (top - j)) := by unfold stA; rw [hh]; rfl
      rw [hh, cond_true] at hst
      have e2 : subI .i64 (cnt (ky first top) k j : Int) 1 = (cnt (ky first top) k (j + 1) : Int) := by rw [subI_i (by unfold I63; omega)]; omega
      rw [e1] at ih
      simp only [Bool.not_true, br_f, e2]
      exact ih
/-- The cells spread to what is there, from the newest down. -/
theorem GI.cells {first top lo : Int} {O : Int → Prop} {val : Int → Int} {k v : List Int} (h : GI first top O val k v) (hlo : O lo) (hmin : ∀ o, O o → lo ≤ o) (hv : ∀ o, O o → val o = 0 ∨ val o = 1) (hc : k.length ≤ 1000) {any fgt : Bool} {fg : Int} :
    ∃ a b, got_Cells k v (ky first top) any fg fgt = some [.li k, .li v, .li a, .li b, .i (ky first top), .b any, .i fg, .b fgt] ∧ vec_Spread a b = some [.li ((List.range (top - lo + 1).toNat).map (stA first top k v))] := by
  have hrl := h.rng lo hlo
  have hk : ∀ n ∈ k, 0 ≤ n ∧ n < 281474976710656 := fun n hn => by
    obtain ⟨o, _, rfl⟩ := (h.mem n).1 hn
    unfold ky; omega
  have hd : ∀ o, O o → (ky first top - ky first o) % 281474976710656 = top - o := fun o ho => by
    have := h.rng o ho
    unfold ky; omega
  have h0 : cnt (ky first top) k (top - lo + 1).toNat = 0 := by
    unfold cnt
    rw [List.countP_eq_zero]
    intro n hn
    obtain ⟨o, ho, rfl⟩ := (h.mem n).1 hn
    have := hmin o ho
    have := h.rng o ho
    rw [hd o ho, decide_eq_true_iff]
    omega
  have h1 : ∀ j, j < (top - lo + 1).toNat → 0 < cnt (ky first top) k j := fun j hj => by
    unfold cnt
    rw [List.countP_pos_iff]
    refine ⟨ky first lo, (h.mem _).2 ⟨lo, hlo, rfl⟩, ?_⟩
    rw [hd lo hlo, decide_eq_true_iff]
    omega
  have hS : ∀ s ∈ (List.range (top - lo + 1).toNat).map (stA first top k v), St s := fun s hs => by
    obtain ⟨j, hj, rfl⟩ := List.mem_map.1 hs
    have hj : j < (top - lo + 1).toNat := by simpa using hj
    unfold stA
    cases hh : mhas k (ky first (top - j))
    · exact .inr (.inr rfl)
    · have ho : O (top - j) := (h.has (by omega) (by omega)).1 (mhas_iff.1 hh)
      rw [cond_true, h.get _ ho]
      rcases hv _ ho with e | e
      · exact .inl e
      · exact .inr (.inl e)
  obtain ⟨a, b, hof, hov⟩ := of_states hS (by simp; omega)
  have hlen : (spr a b).length ≤ 1000 := by rw [hof.spr]; simp; omega
  refine ⟨a, b, ?_, ?_⟩
  · unfold got_Cells got_Cells_d
    have z0 : decide ((0 : Int) = Int.ofNat (0 : Nat)) = true := by decide
    have hc0 : (cnt (ky first top) k 0 : Int) = (k.length : Int) := by
      unfold cnt
      have : k.countP (fun n => decide (((0 : Nat) : Int) ≤ (ky first top - n) % 281474976710656)) = k.length := List.countP_eq_length.2 fun n _ => decide_eq_true (by omega)
      rw [this]
    have := fun kx kr n (hn : (top - lo + 1).toNat < n) => cells_L h.nd hk (J := (top - lo + 1).toNat) (by omega) h0 h1 hc (v := v) (nw := ky first top) (fg := fg) (any := any) (fgt := fgt) (α := List Leaf) kx kr (top - lo + 1).toNat n 0 (by omega) hn
    simp only [hc0] at this
    simp only [List.range_zero, List.map_nil, Int.natCast_zero, Int.sub_zero] at this
    simp only [one_ev, z0, Bool.and_true, chk_t]
    rw [this _ _ _ (top_gt (by omega))]
    simp only [beq00, br_t, un_li_ev, un_i_ev, un_b_ev, un_nil_ev, decide_true, Bool.and_true, chk_t, hov, out_ev]
  · have := spread_t hof.ok hlen
    rw [hof.spr] at this
    exact this
end Go.Sx.T

