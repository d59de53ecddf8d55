import Derived.Test.YtabdgalicaifhaaGreatDoorYGVSpec
import Derived.Test.YtabdgalicaifhaaGreatDoorPlCel
set_option linter.all false
namespace Go.Sx.T
open Go Go.Sx
theorem GI.congr {first top : Int} {O O' : Int → Prop} {val val' : Int → Int} {k v : List Int} (h : GI first top O val k v) (h1 : ∀ x, O' x ↔ O x) (h2 : ∀ x, O x → val' x = val x) : GI first top O' val' k v :=
  ⟨h.len, h.nd, fun n => (h.mem n).trans ⟨fun ⟨o, a, b⟩ => ⟨o, (h1 o).2 a, b⟩, fun ⟨o, a, b⟩ => ⟨o, (h1 o).1 a, b⟩⟩, fun o ho => by rw [h.get o ((h1 o).1 ho), h2 o ((h1 o).1 ho)], fun o ho => h.rng o ((h1 o).1 ho), (h1 _).2 h.top⟩
theorem mget_all {n : Int} : ∀ {k : List Int}, mget false k (List.replicate k.length true) n = mhas k n
  | [] => rfl
  | a :: k => by
    simp only [List.length_cons, List.replicate_succ, mget, mhas, mget_all (k := k)]
theorem mput_all {n : Int} {k : List Int} : mputV k (List.replicate k.length true) n true = List.replicate (mputK k n).length true := by
  unfold mputV mputK
  cases mhas k n
  · simp [List.replicate_succ']
  · simp
structure GV (first top : Int) (wk k v : List Int) : Prop where
  gi : GI first top (· ∈ wk) (fun _ => 0) k v
  lo : ∀ x ∈ wk, 0 ≤ x
  zero : 0 ∈ wk
  cnt : k.length = wk.length
theorem gv_put {first top at' : Int} {wk k v : List Int} (h : GV first top wk k v) (h0 : 0 ≤ at') (h1 : top ≤ 200) (h2 : at' ≤ 200) :
    ∃ k' v', got_Put k v (ky first top) true 0 false (ky first at') false = some [.li k', .li v', .i (ky first (max top at')), .b true, .i 0, .b false, .b (!(mhas wk at'))] ∧ GV first (max top at') (mputK wk at') k' v' := by
  have ht := h.lo _ h.gi.top
  have hm : ∀ x, -1000 < x → x < 1000 → (ky first x ∈ k ↔ x ∈ wk) := fun x a b => h.gi.has (by omega) (by omega)
  by_cases hw : at' ∈ wk
  · have hr := h.gi.rng _ hw
    have hk := (hm at' (by omega) (by omega)).2 hw
    refine ⟨k, v, ?_, ?_⟩
    · rw [gput_there (ky_U _ _) (by rw [ky_mod]; exact hk), mhas_iff.2 hw, show max top at' = top by omega]
      rfl
    · rw [mputK_old hw, show max top at' = top by omega]
      exact h
  · have hk : ky first at' ∉ k := fun x => hw ((hm at' (by omega) (by omega)).1 x)
    have hwm : ∀ x, x ∈ wk ++ [at'] ↔ (x ∈ wk ∨ x = at') := fun x => by simp
    rw [mputK_new hw, mhas_f hw]
    by_cases hlt : at' ≤ top
    · refine ⟨_, _, by rw [gput_in (ky_U _ _) h.gi.len (by rw [ky_mod]; exact hk) (by rw [ky_mod, dif_ky (by omega) (by omega)]; omega) (by rw [ky_mod, dif_ky (by omega) (by omega)]; omega), show max top at' = top by omega]; rfl, ?_⟩
      rw [show max top at' = top by omega, ky_mod]
      refine ⟨(h.gi.put_in 0 hw (by omega) hlt).congr hwm (fun x _ => (ite_self (0 : Int)).symm), fun x hx => ?_, by simp [h.zero], by simp [h.cnt]⟩
      rcases (hwm x).1 hx with h' | rfl
      · exact h.lo x h'
      · exact h0
    · refine ⟨_, _, by rw [gput_new (ky_U _ _) h.gi.len h.gi.nd (by rw [ky_mod]; exact hk) (fun _ => by rw [ky_mod, dif_ky (by omega) (by omega)]; omega), show max top at' = at' by omega, ky_mod]; rfl, ?_⟩
      rw [show max top at' = at' by omega]
      have hg := h.gi.put_new (o := at') 0 (by omega) (by omega)
      have hall : mfK (dropP (ky first at') (ky first at')) (k ++ [ky first at']) = k ++ [ky first at'] := by
        rw [mfK_congr (d' := fun _ => false), mfK_all]
        intro n hn
        rcases List.mem_append.1 hn with hn | hn
        · obtain ⟨o, ho, rfl⟩ := (h.gi.mem n).1 hn
          have := h.gi.rng o ho
          have := h.lo o ho
          have hne : ky first o ≠ ky first at' := fun e => by have := ky_inj e (by omega) (by omega); omega
          unfold dropP
          rw [show (ky first o != ky first at') = true by simpa using hne, cond_true, putHold_eq, dif_ky (by omega) (by omega), decide_eq_false (by omega)]
        · obtain rfl : n = ky first at' := by simpa using hn
          simp [dropP]
      refine ⟨hg.congr (fun x => ?_) (fun x _ => (ite_self (0 : Int)).symm), fun x hx => ?_, by simp [h.zero], by rw [hall]; simp [h.cnt]⟩
      · rw [hwm]
        constructor
        · rintro (h' | rfl)
          · have := h.lo x h'; exact .inl ⟨h', by omega⟩
          · exact .inr rfl
        · rintro (⟨h', _⟩ | rfl)
          · exact .inl h'
          · exact .inr rfl
      · rcases (hwm x).1 hx with h' | rfl
        · exact h.lo x h'
        · exact h0
theorem gv11 {steps : List Int} {first : Int} (hu : U first) : ∀ (m n : Nat) (i top at2 : Int) (wk k v : List Int), 0 ≤ i → i + m = min (steps.length : Int) 40 → GV first top wk k v → top ≤ 5 * i → (wk.length : Int) ≤ i + 1 → -9 * i ≤ at2 → at2 ≤ 5 * i → m < n →
    ∃ top' wk' k' v', GV first top' wk' k' v' ∧ top' ≤ 200 ∧ wk'.length ≤ 41 ∧ ∀ {α : Type} (kx : Nat → List Leaf → Option α) (kr : List Leaf → Option α), GotVector_11_L kx kr n steps wk (List.replicate wk.length true) k v (ky first top) true 0 false i top first at2 = kx 0 [.li steps, .li wk', .lb (List.replicate wk'.length true), .li k', .li v', .i (ky first top'), .b true, .i 0, .b false, .i top']
  | 0, n, i, top, at2, wk, k, v, hi, hm, h, ht, hw, ha, hb, hn => by
    obtain ⟨n, rfl⟩ : ∃ n', n = n' + 1 := ⟨n - 1, by omega⟩
    refine ⟨top, wk, k, v, h, by omega, by omega, fun kx kr => ?_⟩
    simp only [GotVector_11_L, GotVector_11_B, one_ev]
    by_cases h1 : i < Int.ofNat steps.length
    · rw [br_pos h1, br_neg (by simp only [Int.ofNat_eq_natCast] at h1; omega)]
    · rw [br_neg h1]
  | m + 1, n, i, top, at2, wk, k, v, hi, hm, h, ht, hw, ha, hb, hn => by
    obtain ⟨n, rfl⟩ : ∃ n', n = n' + 1 := ⟨n - 1, by omega⟩
    have hlt : (0 : Int) ≤ i ∧ i < Int.ofNat steps.length := by simp only [Int.ofNat_eq_natCast]; omega
    obtain ⟨r, hr⟩ : ∃ r, r = remI .i64 (steps.getD i.toNat 0) 8 := ⟨_, rfl⟩
    have hrb : -8 < r ∧ r < 8 := by
      rw [hr]; unfold remI
      exact ⟨Int.lt_tmod_of_pos _ (by omega), Int.tmod_lt_of_pos _ (by omega)⟩
    have e1 : subI .i64 r 2 = r - 2 := subI_i (by unfold I63; omega)
    have e2 : addI .i64 at2 (r - 2) = at2 + (r - 2) := addI_i (by unfold I63; omega)
    have e3 : addI .i64 i 1 = i + 1 := addI_i (by unfold I63; omega)
    have ht0 := h.lo _ h.gi.top
    by_cases hneg : at2 + (r - 2) < 0
    · obtain ⟨top', wk', k', v', g1, g2, g3, g4⟩ := gv11 (steps := steps) hu m n (i + 1) top (at2 + (r - 2)) wk k v (by omega) (by omega) h (by omega) (by omega) (by omega) (by omega) (by omega)
      refine ⟨top', wk', k', v', g1, g2, g3, fun kx kr => ?_⟩
      simp only [GotVector_11_L, GotVector_11_B, one_ev, ← hr, e1, e2, e3]
      rw [br_pos hlt.2, br_pos (by omega), chk_pos hlt, chk_pos hlt, br_pos hneg]
      simp only [decide_true, Bool.and_true, chk_t]
      exact g4 kx kr
    · have e4 : subI .i64 top (at2 + (r - 2)) = top - (at2 + (r - 2)) := subI_i (by unfold I63; omega)
      obtain ⟨k1, v1, hp, hG⟩ := gv_put h (at' := at2 + (r - 2)) (by omega) (by omega) (by omega)
      have hln : (mputK wk (at2 + (r - 2))).length ≤ wk.length + 1 := by
        unfold mputK
        cases mhas wk (at2 + (r - 2)) <;> simp
      obtain ⟨top', wk', k', v', g1, g2, g3, g4⟩ := gv11 (steps := steps) hu m n (i + 1) (max top (at2 + (r - 2))) (at2 + (r - 2)) _ k1 v1 (by omega) (by omega) hG (by omega) (by omega) (by omega) (by omega) (by omega)
      refine ⟨top', wk', k', v', g1, g2, g3, fun kx kr => ?_⟩
      simp only [GotVector_11_L, GotVector_11_B, one_ev, ← hr, e1, e2, e3, e4, maxI_eq]
      rw [br_pos hlt.2, br_pos (by omega), chk_pos hlt, chk_pos hlt, br_neg hneg, br_neg (show ¬ top - (at2 + (r - 2)) ≥ 250 by omega), rstep_t _ hu]
      rw [show (first + (at2 + (r - 2))) % 281474976710656 = ky first (at2 + (r - 2)) from rfl]
      simp only [decide_true, Bool.and_true, chk_t, out_ev, un_i_ev, un_b_ev, un_li_ev, un_nil_ev, hp, mget_all, mput_all]
      rw [show ((!mhas wk (at2 + (r - 2))) == mhas wk (at2 + (r - 2))) = false by cases mhas wk (at2 + (r - 2)) <;> rfl, br_f]
      exact g4 kx kr
theorem gv23 {steps wk k v : List Int} {first top : Int} (h : GV first top wk k v) (ht : top ≤ 200) {α : Type} (kx : Nat → List Leaf → Option α) (kr : List Leaf → Option α) : ∀ (m n j : Nat), (j + m : Int) = top + 1 → m < n →
    GotVector_23_L kx kr n steps wk (List.replicate wk.length true) ((List.range (top - 0 + 1).toNat).map (stA first top k v)) j top (Int.ofNat ((List.range (top - 0 + 1).toNat).map (stA first top k v)).length) = kx 2 [.li steps]
  | 0, n, j, hj, hn => by
    obtain ⟨n, rfl⟩ : ∃ n', n = n' + 1 := ⟨n - 1, by omega⟩
    simp only [GotVector_23_L, GotVector_23_B]
    rw [br_neg (by simp; omega)]
  | m + 1, n, j, hj, hn => by
    obtain ⟨n, rfl⟩ : ∃ n', n = n' + 1 := ⟨n - 1, by omega⟩
    have ih := gv23 (steps := steps) h ht kx kr m n (j + 1) (by omega) (by omega)
    have hin : (0 : Int) ≤ (j : Int) ∧ (j : Int) < Int.ofNat ((List.range (top - 0 + 1).toNat).map (stA first top k v)).length := by simp; omega
    have e1 : addI .i64 (j : Int) 1 = ((j + 1 : Nat) : Int) := by rw [addI_i (by unfold I63; omega)]; rfl
    have e2 : subI .i64 top (j : Int) = top - j := subI_i (by unfold I63; omega)
    have hg : ((List.range (top - 0 + 1).toNat).map (stA first top k v)).getD j 0 = stA first top k v j := by
      rw [List.getD_eq_getElem?_getD, List.getElem?_map, List.getElem?_range (by omega)]
      rfl
    have hmh : mhas k (ky first (top - j)) = mhas wk (top - j) := by
      rw [mhas_dec, mhas_dec]
      exact decide_eq_decide.2 (h.gi.has (by omega) (by omega))
    have hst : (stA first top k v j == 0) = mhas wk (top - j) := by
      unfold stA
      rw [hmh]
      cases hh : mhas wk (top - j)
      · rfl
      · rw [cond_true, h.gi.get _ (mhas_iff.1 hh)]; rfl
    simp only [GotVector_23_L, GotVector_23_B, one_ev, e1, e2, Int.toNat_natCast, hg, hst, mget_all]
    rw [br_pos hin.2, chk_pos hin, chk_pos hin, show (!(mhas wk (top - j) == mhas wk (top - j))) = false by cases mhas wk (top - j) <;> rfl, br_f]
    simp only [decide_true, Bool.and_true, chk_t]
    exact ih
theorem GotVector_true {steps : List Int} {first : Int} (hu : U first) : GotVector steps first = some [.b true] := by
  unfold GotVector GotVector_d
  obtain ⟨k, v, hp, hI, hk⟩ := gput_first (first := first) (s := first) (mark := false) hu (by unfold ky; omega) rfl
  have hn : got_New = some [.li [], .li [], .i 0, .b false, .i 0, .b false] := rfl
  have hG : GV first 0 [0] k v := ⟨hI.congr (fun x => by simp) (fun _ _ => rfl), by simp, by simp, by simp [hk]⟩
  obtain ⟨top', wk', k', v', g1, g2, g3, g4⟩ := gv11 hu (steps := steps) (min (steps.length : Int) 40).toNat top 0 0 0 [0] k v (by omega) (by omega) hG (by omega) (by simp) (by omega) (by omega) (top_gt (by omega))
  have g0 := g1.lo _ g1.gi.top
  obtain ⟨a, b, hc1, hc2⟩ := g1.gi.cells (lo := 0) (any := true) (fgt := false) (fg := 0) g1.zero g1.lo (fun _ _ => .inl rfl) (by rw [g1.cnt]; omega)
  have hLl : ((List.range (top' - 0 + 1).toNat).map (stA first top' k' v')).length = (top' - 0 + 1).toNat := by simp
  have e1 : addI .i64 top' 1 = top' + 1 := addI_i (by unfold I63; omega)
  have h23 := fun kx kr n (hn : (top' + 1).toNat < n) => gv23 (steps := steps) g1 g2 (α := List Leaf) kx kr (top' + 1).toNat n 0 (by omega) hn
  simp only [hn, hp, out_ev, un_li_ev, un_i_ev, un_b_ev, un_nil_ev, Bool.not_true, br_f, decide_true, Bool.and_true, chk_t]
  have := g4 (α := List Leaf)
  simp only [List.length_cons, List.length_nil, Nat.zero_add, List.replicate_one] at this
  rw [show mputK ([] : List Int) 0 = [0] from rfl, show mputV ([] : List Int) ([] : List Bool) 0 true = [true] from rfl, this]
  simp only [beq00, br_t, out_ev, un_li_ev, un_i_ev, un_b_ev, un_lb_ev, un_nil_ev, hc1, hc2, decide_true, Bool.and_true, chk_t, one_ev, e1]
  rw [show (Int.ofNat ((List.range (top' - 0 + 1).toNat).map (stA first top' k' v')).length != top' + 1) = false by rw [hLl]; simp; omega, br_f]
  have h0 := fun kx kr => h23 kx kr _ (top_gt (by omega))
  simp only [Int.natCast_zero] at h0
  rw [h0]
  simp only [show Nat.beq 2 2 = true from rfl, br_t, un_li_ev, un_nil_ev]
end Go.Sx.T

