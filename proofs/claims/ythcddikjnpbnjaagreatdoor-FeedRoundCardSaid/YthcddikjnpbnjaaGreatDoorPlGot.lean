import Derived.Test.YthcddikjnpbnjaaGreatDoorPlMp
set_option linter.all false
namespace Go.Sx.T
open Go Go.Sx
structure GI (first top : Int) (O : Int → Prop) (val : Int → Int) (k v : List Int) : Prop where
  len : v.length = k.length
  nd : k.Nodup
  mem : ∀ n, n ∈ k ↔ ∃ o, O o ∧ n = ky first o
  get : ∀ o, O o → mget 0 k v (ky first o) = val o
  rng : ∀ o, O o → top - 250 < o ∧ o ≤ top
  top : O top
theorem GI.has {first top : Int} {O : Int → Prop} {val : Int → Int} {k v : List Int} (h : GI first top O val k v) {o : Int} (h0 : -1000000 < o - top) (h1 : o - top < 1000000) : ky first o ∈ k ↔ O o := by
  rw [h.mem]
  constructor
  · rintro ⟨a, ha, e⟩
    have := h.rng a ha
    obtain rfl : o = a := ky_inj e (by omega) (by omega)
    exact ha
  · exact fun ho => ⟨o, ho, rfl⟩
theorem has_t {k v : List Int} {nw fg s : Int} {any fgt : Bool} (hs : U s) : got_Has k v nw any fg fgt s = some [.b (mhas k (s % 281474976710656))] := by
  unfold got_Has
  simp only [of_t hs, out_ev, un_i_ev, un_nil_ev, one_ev]
theorem has_t' {first o : Int} {k v : List Int} {nw fg : Int} {any fgt : Bool} : got_Has k v nw any fg fgt (ky first o) = some [.b (mhas k (ky first o))] := by
  rw [has_t (ky_U _ _), ky_mod]
/-- What is there is not new. -/
theorem gput_there {k v : List Int} {nw fg s : Int} {any fgt mark : Bool} (hs : U s) (h : s % 281474976710656 ∈ k) : got_Put k v nw any fg fgt s mark = some [.li k, .li v, .i nw, .b any, .i fg, .b fgt, .b false] := by
  unfold got_Put
  have hu : U (s % 281474976710656) := by unfold U; omega
  simp only [of_t hs, out_ev, un_i_ev, un_b_ev, un_nil_ev, has_t hu]
  rw [show s % 281474976710656 % 281474976710656 = s % 281474976710656 by omega, mhas_iff.2 h, br_t]
/-- What is old is not new. -/
theorem gput_old {k v : List Int} {nw fg s : Int} {fgt mark : Bool} (hs : U s) (h : s % 281474976710656 ∉ k) (hd : 250 ≤ dif nw (s % 281474976710656)) : got_Put k v nw true fg fgt s mark = some [.li k, .li v, .i nw, .b true, .i fg, .b fgt, .b false] := by
  unfold got_Put
  have hu : U (s % 281474976710656) := by unfold U; omega
  simp only [of_t hs, out_ev, un_i_ev, un_b_ev, un_nil_ev, has_t hu, diffD_t, br_t]
  rw [show s % 281474976710656 % 281474976710656 = s % 281474976710656 by omega, mhas_f h, br_f, br_pos hd]
/-- What was forgotten is not new. -/
theorem gput_forgot {k v : List Int} {nw fg s : Int} {mark : Bool} (hs : U s) (h : s % 281474976710656 ∉ k) (hd : ¬ 250 ≤ dif nw (s % 281474976710656)) (hf : ¬ dif fg (s % 281474976710656) < 0) : got_Put k v nw true fg true s mark = some [.li k, .li v, .i nw, .b true, .i fg, .b true, .b false] := by
  unfold got_Put
  have hu : U (s % 281474976710656) := by unfold U; omega
  simp only [of_t hs, out_ev, un_i_ev, un_b_ev, un_nil_ev, has_t hu, diffD_t, lessD_t, br_t, decide_eq_false hf, Bool.not_false]
  rw [show s % 281474976710656 % 281474976710656 = s % 281474976710656 by omega, mhas_f h, br_f, br_neg (show ¬ dif nw (s % 281474976710656) ≥ 250 from hd)]
def mk (mark : Bool) : Int := if mark then 1 else 0
/-- Behind the newest one. -/
theorem gput_in {k v : List Int} {nw fg s : Int} {mark : Bool} (hs : U s) (hl : v.length = k.length) (h : s % 281474976710656 ∉ k) (hd : ¬ 250 ≤ dif nw (s % 281474976710656)) (hf : ¬ dif nw (s % 281474976710656) < 0) : got_Put k v nw true fg false s mark = some [.li (k ++ [s % 281474976710656]), .li (v ++ [mk mark]), .i nw, .b true, .i fg, .b false, .b true] := by
  unfold got_Put
  have hu : U (s % 281474976710656) := by unfold U; omega
  simp only [of_t hs, out_ev, un_i_ev, un_b_ev, un_nil_ev, has_t hu, diffD_t, lessD_t, br_t, br_f, Bool.not_true, decide_eq_false hf]
  rw [show s % 281474976710656 % 281474976710656 = s % 281474976710656 by omega, mhas_f h, br_f, br_neg (show ¬ dif nw (s % 281474976710656) ≥ 250 from hd)]
  have hm : s % 281474976710656 ∈ k ++ [s % 281474976710656] := by simp
  simp only [mputK_new h, mputV_new h, mputK_old hm, mputV_again h hl]
  cases mark <;> rfl
/-- The newest one, and there was one. -/
theorem gput_new {k v : List Int} {nw fg s : Int} {mark any : Bool} (hs : U s) (hl : v.length = k.length) (hn : k.Nodup) (h : s % 281474976710656 ∉ k) (hf : any = true → dif nw (s % 281474976710656) < 0) : got_Put k v nw any fg false s mark =
    some [.li (mfK (dropP (s % 281474976710656) (s % 281474976710656)) (k ++ [s % 281474976710656])), .li (mfV (dropP (s % 281474976710656) (s % 281474976710656)) (k ++ [s % 281474976710656]) (v ++ [mk mark])), .i (s % 281474976710656), .b true, .i fg, .b false, .b true] := by
  unfold got_Put
  have hu : U (s % 281474976710656) := by unfold U; omega
  have hm : s % 281474976710656 ∈ k ++ [s % 281474976710656] := by simp
  have hnd := nodupB_of (nodup_app hn h)
  simp only [of_t hs, out_ev, un_i_ev, un_b_ev, un_nil_ev, has_t hu, diffD_t, lessD_t, mputK_new h, mputV_new h, mputK_old hm, mputV_again h hl, got_drop, hnd, chk_t, un_li_ev]
  rw [show s % 281474976710656 % 281474976710656 = s % 281474976710656 by omega, mhas_f h, br_f]
  cases any
  · cases mark <;> rfl
  · have := hf rfl
    rw [br_t, br_neg (by omega), decide_eq_true this]
    cases mark <;> rfl
theorem mfK_le {p : Int → Bool} : ∀ {k : List Int}, (mfK p k).length ≤ k.length
  | [] => Nat.le_refl _
  | a :: k => by
    have := mfK_le (p := p) (k := k)
    simp only [mfK]
    cases p a
    · simp only [cond_false, List.length_cons]; omega
    · simp only [cond_true, List.length_cons]; omega
theorem putHold_eq (s n : Int) : putHold s n = decide (dif s n < 0 ∨ dif s n ≥ 250) := by
  unfold putHold
  rw [diffI_eq]
  by_cases h : dif s n < 0
  · simp [h]
  · simp [h]
theorem GI.put_in {first top : Int} {O : Int → Prop} {val : Int → Int} {k v : List Int} (h : GI first top O val k v) {o : Int} (m : Int) (hO : ¬ O o) (h0 : top - 250 < o) (h1 : o ≤ top) : GI first top (fun x => O x ∨ x = o) (fun x => if x = o then m else val x) (k ++ [ky first o]) (v ++ [m]) := by
  have hn : ky first o ∉ k := fun x => hO ((h.has (by omega) (by omega)).1 x)
  refine ⟨by simp [h.len], nodup_app h.nd hn, fun n => ?_, fun a ha => ?_, fun a ha => ?_, .inl h.top⟩
  · rw [List.mem_append, h.mem]
    constructor
    · rintro (⟨a, ha, rfl⟩ | hx)
      · exact ⟨a, .inl ha, rfl⟩
      · exact ⟨o, .inr rfl, by simpa using hx⟩
    · rintro ⟨a, ha | rfl, rfl⟩
      · exact .inl ⟨a, ha, rfl⟩
      · exact .inr (by simp)
  · rw [mget_app h.len hn]
    rcases ha with ha | rfl
    · have hao : a ≠ o := fun x => hO (x ▸ ha)
      have := h.rng a ha
      rw [if_neg (fun e => hao (ky_inj e (by omega) (by omega))), if_neg hao, h.get a ha]
    · rw [if_pos rfl, if_pos rfl]
  · rcases ha with ha | rfl
    · exact h.rng a ha
    · omega
theorem GI.put_new {first top : Int} {O : Int → Prop} {val : Int → Int} {k v : List Int} (h : GI first top O val k v) {o : Int} (m : Int) (h1 : top < o) (h2 : o < top + 1000) : GI first o (fun x => (O x ∧ o - 250 < x) ∨ x = o) (fun x => if x = o then m else val x) (mfK (dropP (ky first o) (ky first o)) (k ++ [ky first o])) (mfV (dropP (ky first o) (ky first o)) (k ++ [ky first o]) (v ++ [m])) := by
  have hO : ¬ O o := fun x => by have := h.rng o x; omega
  have hn : ky first o ∉ k := fun x => hO ((h.has (by omega) (by omega)).1 x)
  have hd0 : dropP (ky first o) (ky first o) (ky first o) = false := by simp [dropP]
  have hdp : ∀ a, O a → dropP (ky first o) (ky first o) (ky first a) = decide (a ≤ o - 250) := fun a ha => by
    have := h.rng a ha
    have hne : ky first a ≠ ky first o := fun e => by have := ky_inj e (by omega) (by omega); omega
    unfold dropP
    rw [show (ky first a != ky first o) = true by simpa using hne, cond_true, putHold_eq, dif_ky (by omega) (by omega)]
    apply decide_eq_decide.2
    omega
  have hl2 : (v ++ [m]).length = (k ++ [ky first o]).length := by simp [h.len]
  refine ⟨mfV_len hl2, mfK_nodup (nodup_app h.nd hn), fun n => ?_, fun a ha => ?_, fun a ha => ?_, .inr rfl⟩
  · rw [mem_mfK, List.mem_append, h.mem]
    constructor
    · rintro ⟨⟨a, ha, rfl⟩ | hx, hp⟩
      · rw [hdp a ha, decide_eq_false_iff_not] at hp
        exact ⟨a, .inl ⟨ha, by omega⟩, rfl⟩
      · exact ⟨o, .inr rfl, by simpa using hx⟩
    · rintro ⟨a, ⟨ha, hb⟩ | rfl, rfl⟩
      · exact ⟨.inl ⟨a, ha, rfl⟩, by rw [hdp a ha, decide_eq_false (by omega)]⟩
      · exact ⟨.inr (by simp), hd0⟩
  · have hp : dropP (ky first o) (ky first o) (ky first a) = false := by
      rcases ha with ⟨ha, hb⟩ | rfl
      · rw [hdp a ha, decide_eq_false (by omega)]
      · exact hd0
    rw [mget_mf hp hl2, mget_app h.len hn]
    rcases ha with ⟨ha, hb⟩ | rfl
    · have hao : a ≠ o := fun x => hO (x ▸ ha)
      have := h.rng a ha
      rw [if_neg (fun e => hao (ky_inj e (by omega) (by omega))), if_neg hao, h.get a ha]
    · rw [if_pos rfl, if_pos rfl]
  · rcases ha with ⟨ha, hb⟩ | rfl
    · have := h.rng a ha; omega
    · omega
/-- The first one of all. -/
theorem gput_first {first s m : Int} {mark : Bool} (hs : U s) (hk : s % 281474976710656 = ky first 0) (hm : mk mark = m) : ∃ k v, got_Put [] [] 0 false 0 false s mark = some [.li k, .li v, .i (ky first 0), .b true, .i 0, .b false, .b true] ∧ GI first 0 (fun x => x = 0) (fun _ => m) k v ∧ k.length = 1 := by
  refine ⟨_, _, by rw [gput_new hs rfl (by simp) (by simp) (by simp), hk, hm], ?_⟩
  have : mfK (dropP (ky first 0) (ky first 0)) ([] ++ [ky first 0]) = [ky first 0] := by simp [mfK, dropP]
  have h2 : mfV (dropP (ky first 0) (ky first 0)) ([] ++ [ky first 0]) ([] ++ [m]) = [m] := by simp [mfV, dropP]
  rw [this, h2]
  refine ⟨?_, rfl⟩
  refine ⟨rfl, by simp, fun n => ?_, fun o ho => ?_, fun o ho => ?_, rfl⟩
  · constructor
    · intro hx; exact ⟨0, rfl, by simpa using hx⟩
    · rintro ⟨o, rfl, rfl⟩; simp
  · subst ho; simp [mget]
  · subst ho; omega
end Go.Sx.T

