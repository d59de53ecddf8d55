import Derived.Test.YtabdgalicaifhaaGreatDoorYGFSpec
import Derived.Test.YtabdgalicaifhaaGreatDoorPlCel
set_option linter.all false
namespace Go.Sx.T
open Go Go.Sx
theorem GotFar_true {first far : Int} (hu : U first) : GotFar first far = some [.b true] := by
  unfold GotFar
  obtain ⟨F', hF0, hF1, hF⟩ := rem_N (m := 20) (by omega) (by omega) far
  obtain ⟨F, hFe⟩ : ∃ F, F = 240 + F' := ⟨_, rfl⟩
  have e1 : addI .i64 240 F' = F := by rw [addI_i (by unfold I63; omega)]; omega
  have e2 : addI .i64 F 1 = F + 1 := addI_i (by unfold I63; omega)
  obtain ⟨k, v, hp, hI, hk⟩ := gput_first (first := first) (s := first) (mark := false) hu (by unfold ky; omega) rfl
  have hm0 : ky first F ∉ k := fun x => by have := (hI.has (o := F) (by omega) (by omega)).1 x; omega
  have hn : got_New = some [.li [], .li [], .i 0, .b false, .i 0, .b false] := rfl
  have hw : wrapI .i64 F = F := wrapI_i (by unfold I63; omega)
  have hI2 := hI.put_new (o := F) 0 (by omega) (by omega)
  have hp2 := gput_new (mark := false) (any := true) (fg := 0) (nw := ky first 0) (ky_U first F) hI.len hI.nd (by rw [ky_mod]; exact hm0) (fun _ => by rw [ky_mod, dif_ky (by omega) (by omega)]; omega)
  rw [ky_mod, show mk false = 0 from rfl] at hp2
  have hl2 := mfK_le (p := dropP (ky first F) (ky first F)) (k := k ++ [ky first F])
  rw [List.length_append, hk] at hl2
  generalize mfK (dropP (ky first F) (ky first F)) (k ++ [ky first F]) = k2 at *
  generalize mfV (dropP (ky first F) (ky first F)) (k ++ [ky first F]) (v ++ [0]) = v2 at *
  have hs : ref_Step first F = some [.i (ky first F)] := rstep_t F hu
  have hs2 : ref_Step (ky first F) (-249) = some [.i (ky first (F - 249))] := by
    rw [rstep_t _ (ky_U _ _)]
    congr 3
    unfold ky; omega
  have hfm : first % 281474976710656 = ky first 0 := by unfold ky; omega
  have hh : got_Has k2 v2 (ky first F) true 0 false first = some [.b (mhas k2 (ky first 0))] := by rw [has_t hu, hfm]
  have hv : ∀ o, ((o = 0 ∧ F - 250 < o) ∨ o = F) → (if o = F then (0 : Int) else 0) = 0 ∨ (if o = F then (0 : Int) else 0) = 1 := fun o _ => .inl (by split <;> rfl)
  simp only [one_ev, hF, e1, e2, hn, hw, out_ev, un_li_ev, un_i_ev, un_b_ev, un_nil_ev, hs, hp, hp2, Bool.not_true, br_f, decide_true, Bool.and_true, chk_t]
  by_cases hF2 : F ≥ 250
  · have h0 : ky first 0 ∉ k2 := fun x => by have := (hI2.has (o := 0) (by omega) (by omega)).1 x; omega
    obtain ⟨a, b, hc1, hc2⟩ := hI2.cells (lo := F) (any := true) (fgt := false) (fg := 0) (.inr rfl) (fun o ho => by omega) hv (by simp at hl2; omega)
    have hq := gput_old (v := v2) (fg := 0) (fgt := false) (mark := true) (nw := ky first F) hu (by rw [hfm]; exact h0) (by rw [hfm, dif_ky (by omega) (by omega)]; omega)
    have h9 : ky first (F - 249) ∉ k2 := fun x => by have := (hI2.has (o := F - 249) (by omega) (by omega)).1 x; omega
    have hq2 := gput_in (fg := 0) (mark := false) (nw := ky first F) (ky_U first (F - 249)) hI2.len (by rw [ky_mod]; exact h9) (by rw [ky_mod, dif_ky (by omega) (by omega)]; omega) (by rw [ky_mod, dif_ky (by omega) (by omega)]; omega)
    simp only [hc1, hc2, hh, hq, hs2, hq2, out_ev, un_li_ev, un_i_ev, un_b_ev, un_nil_ev, mhas_f h0, decide_true, Bool.and_true, chk_t, Bool.not_false, br_t]
    rw [br_pos hF2, decide_eq_true hF2, show (F - F + 1).toNat = 1 by omega]
    rw [show (F != 249) = true by simp; omega]
    rfl
  · have h0 : ky first 0 ∈ k2 := (hI2.has (o := 0) (by omega) (by omega)).2 (by omega)
    obtain ⟨a, b, hc1, hc2⟩ := hI2.cells (lo := 0) (any := true) (fgt := false) (fg := 0) (.inl ⟨rfl, by omega⟩) (fun o ho => by omega) hv (by simp at hl2; omega)
    have hq := gput_there (v := v2) (fg := 0) (any := true) (fgt := false) (mark := true) (nw := ky first F) hu (by rw [hfm]; exact h0)
    simp only [hc1, hc2, hh, hq, hs2, out_ev, un_li_ev, un_i_ev, un_b_ev, un_nil_ev, mhas_iff.2 h0, decide_true, Bool.and_true, chk_t, Bool.not_false, br_t]
    rw [br_neg hF2, decide_eq_false hF2, show (true == !false) = true from rfl, br_t, br_eq (by simp; omega)]
    by_cases h9 : F = 249
    · have hq2 := gput_there (k := k2) (v := v2) (fg := 0) (any := true) (fgt := false) (mark := false) (nw := ky first F) (ky_U first (F - 249)) (by rw [ky_mod, show F - 249 = 0 by omega]; exact h0)
      simp only [hq2, out_ev, un_li_ev, un_i_ev, un_b_ev, un_nil_ev]
      subst h9
      rfl
    · have h9' : ky first (F - 249) ∉ k2 := fun x => by have := (hI2.has (o := F - 249) (by omega) (by omega)).1 x; omega
      have hq2 := gput_in (fg := 0) (mark := false) (nw := ky first F) (ky_U first (F - 249)) hI2.len (by rw [ky_mod]; exact h9') (by rw [ky_mod, dif_ky (by omega) (by omega)]; omega) (by rw [ky_mod, dif_ky (by omega) (by omega)]; omega)
      simp only [hq2, out_ev, un_li_ev, un_i_ev, un_b_ev, un_nil_ev]
      rw [show (F != 249) = true by simpa using h9]
      rfl
end Go.Sx.T

