import Derived.Test.YtabdgalicaifhaaGreatDoorPlFp
set_option linter.all false
namespace Go.Sx.T
open Go Go.Sx
def Gs (b : Int) (S : Int → Prop) (top o : Int) : Prop := 0 ≤ o ∧ o ≤ top ∧ ¬ S o ∧ o ≠ b - 1
def Ls (b : Int) (S : Int → Prop) (top o : Int) : Prop := S o ∨ (0 < b ∧ o = b - 1 ∧ 3 ≤ top - (b - 1))
structure HI (first b top t : Int) (S : Int → Prop) (F : FS) : Prop where
  gi : ∃ tm, GI first top (Gs b S top) tm F.gk F.gv
  wb : 0 < b → wO first F b = t
  li : LI first (Ls b S top) F.lk F.lv
  s : ∀ o, S o → 0 < o ∧ o < b - 1
  fo : FO first top F
  any : F.any = true
  now : F.now = t
  r : F.r = 1000
  b0 : (b = 0 ∨ 5 ≤ b) ∧ b ≤ top
  tb : 0 ≤ t ∧ t ≤ 100000
structure Se (i events last gap : Int) (F : FS) : Prop where
  ct : F.ct = i
  ev : F.ev = decide (0 < i)
  ea : 0 < i → F.ea = last
  cl : (F.cl.length : Int) = events
  le : 0 ≤ i ∧ events ≤ i ∧ i ≤ 8
  lst : 0 < i → F.cl.getLast? = some gap
  eb : -1000000 ≤ F.ea ∧ F.ea ≤ 1000000
def Rel (e0 l0 events last t i : Int) : Prop := ((t > l0 + 1000 ∨ i = 1) ∧ events = e0 + 1 ∧ last = t) ∨ (¬ (t > l0 + 1000 ∨ i = 1) ∧ events = e0 ∧ last = l0)
def Evs (i events last gap b top t : Int) (F : FS) : Prop :=
  (b = 0 ∧ i = 0 ∧ Se 0 events last gap F) ∨
  (0 < b ∧ 1 ≤ i ∧ i ≤ 8 ∧ (i = 1 → b = gap + 1) ∧ top - (b - 1) < 3 ∧ ∃ e0 l0, Se (i - 1) e0 l0 gap F ∧ Rel e0 l0 events last t i) ∨
  (0 < b ∧ 1 ≤ i ∧ 3 ≤ top - (b - 1) ∧ Se i events last gap F)
theorem Se.put {i events last gap n t : Int} {F : FS} (h : Se i events last gap F) : Se i events last gap (putS F n t) := ⟨h.ct, h.ev, h.ea, h.cl, h.le, h.lst, h.eb⟩
theorem se_lose {first i e0 l0 events last gap b t : Int} {F : FS} (h : Se (i - 1) e0 l0 gap F) (h1 : 1 ≤ i) (h8 : i ≤ 8) (hr : F.r = 1000) (hfs : F.fs = ky first 0) (hb : i = 1 → b = gap + 1) (hb5 : 5 ≤ b) (hb2 : b < 245) (ht : 0 ≤ t ∧ t ≤ 100000) (hR : Rel e0 l0 events last t i) :
    Se i events last gap (loseS F (ky first (b - 1)) t) := by
  obtain ⟨g1, g2, g3, g4, g5, g6, g7⟩ := h
  unfold Rel at hR
  unfold loseS
  by_cases hi : i = 1
  · have hev : F.ev = false := by rw [g2, decide_eq_false (by omega)]
    have hcl : F.cl = [] := List.eq_nil_of_length_eq_zero (by omega)
    rw [if_neg (by rw [hev]; simp)]
    refine ⟨by simp only; omega, by simp only; rw [decide_eq_true (by omega)], fun _ => by simp only; omega, by simp only [List.length_cons]; omega, by omega, fun _ => ?_, by simp only; omega⟩
    simp only [hev, hcl, Bool.false_eq_true, if_false, hfs]
    rw [dif_ky (by omega) (by omega)]
    have := hb hi
    simp; omega
  · have hev : F.ev = true := by rw [g2, decide_eq_true (by omega)]
    have hea := g3 (by omega)
    have hl := g6 (by omega)
    by_cases hc : t ≤ F.ea + F.r
    · rw [if_pos ⟨hev, hc⟩]
      exact ⟨by simp only; omega, by simp only; rw [hev, decide_eq_true (by omega)], fun _ => by simp only; omega, by simp only; omega, by omega, fun _ => hl, by simp only; omega⟩
    · rw [if_neg (fun x => hc x.2)]
      refine ⟨by simp only; omega, by simp only; rw [decide_eq_true (by omega)], fun _ => by simp only; omega, by simp only [List.length_cons]; omega, by omega, fun _ => ?_, by simp only; omega⟩
      simp only
      cases hcl : F.cl with
      | nil => rw [hcl] at hl; simp at hl
      | cons a q => rw [hcl] at hl; rw [List.getLast?_cons_cons]; exact hl
theorem GI.app {first top : Int} {O : Int → Prop} {val : Int → Int} {k v : List Int} (h : GI first top O val k v) (hO : ∀ x, O x → 0 ≤ x) {o : Int} (m : Int) (h1 : top < o) (h2 : o < 245) : GI first o (fun x => O x ∨ x = o) (fun x => if x = o then m else val x) (k ++ [ky first o]) (v ++ [m]) := by
  have h3 := hO _ h.top
  have hn : ky first o ∉ k := fun x => by
    obtain ⟨a, ha, e⟩ := (h.mem _).1 x
    have := h.rng a ha
    have := hO a ha
    have := ky_inj e (by omega) (by omega)
    omega
  refine ⟨by simp [h.len], nodup_app h.nd hn, fun n => ?_, fun a ha => ?_, fun a ha => ?_, .inr rfl⟩
  · rw [List.mem_append, h.mem]
    constructor
    · rintro (⟨a, ha, rfl⟩ | hx)
      · exact ⟨a, .inl ha, rfl⟩
      · exact ⟨o, .inr rfl, by simpa using hx⟩
    · rintro ⟨a, ha | rfl, rfl⟩
      · exact .inl ⟨a, ha, rfl⟩
      · exact .inr (by simp)
  · rw [mget_app h.len hn]
    rcases ha with ha | rfl
    · have := h.rng a ha
      have := hO a ha
      rw [if_neg (fun e => by have := ky_inj e (by omega) (by omega); omega), if_neg (by omega), h.get a ha]
    · rw [if_pos rfl, if_pos rfl]
  · rcases ha with ha | rfl
    · have := h.rng a ha; have := hO a ha; omega
    · omega
theorem loseS_ls (F : FS) (n t : Int) : (loseS F n t).gk = F.gk ∧ (loseS F n t).gv = F.gv ∧ (loseS F n t).lk = mputK F.lk n ∧ (loseS F n t).lv = mputV F.lk F.lv n true ∧ (loseS F n t).any = F.any ∧ (loseS F n t).now = F.now ∧ (loseS F n t).fs = F.fs ∧ (loseS F n t).nw = F.nw ∧ (loseS F n t).r = F.r := by
  unfold loseS
  split <;> simp
/-- One more number of the block. -/
theorem stepH {first b top t i events last gap : Int} {S : Int → Prop} {F : FS} (h : HI first b top t S F) (he : Evs i events last gap b top t F) (h1 : top + 1 < 245) :
    ∃ F', feed_Put F.gk F.gv F.lk F.lv F.cl F.r F.any F.now F.fs F.nw F.ct F.ev F.ea F.en F.bs F.si t (ky first (top + 1)) 1 = some (F'.ls ++ [.b true]) ∧ HI first b (top + 1) t S F' ∧ Evs i events last gap b (top + 1) t F' := by
  obtain ⟨⟨tm, hgi⟩, hwb, hli, hs, hfo, hany, hnow, hr, ⟨hb0, hb1⟩, htb⟩ := h
  have hG0 : ∀ x, Gs b S top x → 0 ≤ x := fun x hx => hx.1
  have hL0 : ∀ x, Ls b S top x → x < top + 1 := fun x hx => by
    rcases hx with hx | hx
    · have := hs x hx; omega
    · omega
  have hPnow : max F.now (min t 4611686018427387904) = t := by omega
  have hgi' : GI first (top + 1) (Gs b S (top + 1)) (fun x => if x = top + 1 then t else tm x) (F.gk ++ [ky first (top + 1)]) (F.gv ++ [t]) := (hgi.app hG0 t (by omega) (by omega)).congr (fun x => by
    unfold Gs
    constructor
    · rintro ⟨a1, a2, a3, a4⟩
      by_cases e : x = top + 1
      · exact .inr e
      · exact .inl ⟨a1, by omega, a3, a4⟩
    · rintro (⟨a1, a2, a3, a4⟩ | rfl)
      · exact ⟨a1, by omega, a3, a4⟩
      · exact ⟨by omega, by omega, fun hx => by have := hs _ hx; omega, by omega⟩) (fun x _ => rfl)
  have hFO' : FO first (top + 1) (putS F (ky first (top + 1)) t) := ⟨hfo.fs, rfl, by have := hfo.t0; omega, h1⟩
  have hgO : ∀ o, -1000 < o → o < 1000 → (gO first (putS F (ky first (top + 1)) t) o = true ↔ Gs b S (top + 1) o) := fun o a1 a2 => by
    show mhas (F.gk ++ [ky first (top + 1)]) (ky first o) = true ↔ _
    rw [mhas_iff]
    have := hfo.t0
    exact hgi'.has (by omega) (by omega)
  have hlO : ∀ o, -1000 < o → o < 1000 → (lO first (putS F (ky first (top + 1)) t) o = true ↔ Ls b S top o) := fun o a1 a2 => hli.has (by omega) (by omega)
  have ht0 := hfo.t0
  have hP1 : (putS F (ky first (top + 1)) t).gv = F.gv ++ [t] := by unfold putS; rw [hPnow]
  have hP2 : (putS F (ky first (top + 1)) t).now = t := by unfold putS; rw [hPnow]
  have hwb' : 0 < b → wO first (putS F (ky first (top + 1)) t) b = t := fun hb => by
    have hbk : ky first (top + 1) ∉ F.gk := fun x => by
      obtain ⟨a, ha, e⟩ := (hgi.mem _).1 x
      have := hgi.rng a ha
      have := hG0 a ha
      have := ky_inj e (by omega) (by omega)
      omega
    have : wO first (putS F (ky first (top + 1)) t) b = mget 0 (F.gk ++ [ky first (top + 1)]) (F.gv ++ [max F.now (min t 4611686018427387904)]) (ky first b) := rfl
    rw [this, mget_app hgi.len hbk, if_neg (fun e => by have := ky_inj e (by omega) (by omega); omega)]
    exact hwb hb
  by_cases hc : 0 < b ∧ top - (b - 1) < 3
  · obtain ⟨c1, c2⟩ := hc
    have hgf : gO first (putS F (ky first (top + 1)) t) (b - 1) = false := by
      cases e : gO first (putS F (ky first (top + 1)) t) (b - 1)
      · rfl
      · have := (hgO _ (by omega) (by omega)).1 e
        exact absurd rfl this.2.2.2
    have hlf : lO first (putS F (ky first (top + 1)) t) (b - 1) = false := by
      cases e : lO first (putS F (ky first (top + 1)) t) (b - 1)
      · rfl
      · rcases (hlO _ (by omega) (by omega)).1 e with hx | hx
        · have := hs _ hx; omega
        · omega
    have hab : ∀ o, b - 1 < o → o ≤ top + 1 → gO first (putS F (ky first (top + 1)) t) o = true := fun o a1 a2 => (hgO o (by omega) (by omega)).2 ⟨by omega, a2, fun hx => by have := hs _ hx; omega, by omega⟩
    have hbe : ∀ o, 0 < o → o < b - 1 → gO first (putS F (ky first (top + 1)) t) o = true ∨ lO first (putS F (ky first (top + 1)) t) o = true := fun o a1 a2 => by
      by_cases hx : S o
      · exact .inr ((hlO o (by omega) (by omega)).2 (.inl hx))
      · exact .inl ((hgO o (by omega) (by omega)).2 ⟨by omega, by omega, hx, by omega⟩)
    rcases he with he | ⟨q1, q2, q8, q3, q4, e0, l0, q5, q6⟩ | he
    · omega
    · by_cases h3 : 3 ≤ top + 1 - (b - 1)
      · have hk := look_hit hFO' (by omega) (by omega) hgf hlf hab hbe h3 ⟨by have := q5.ct; have : (putS F (ky first (top + 1)) t).ct = F.ct := rfl; omega, by have := q5.ct; have : (putS F (ky first (top + 1)) t).ct = F.ct := rfl; omega⟩ (by
          have := q5.eb
          show I63 (F.ea + F.r)
          unfold I63; omega) (by
          show F.cl.length ≤ 7
          have := q5.cl
          have := q5.le
          omega)
        rw [show b - 1 + 1 = b by omega, hwb' q1] at hk
        refine ⟨_, put_F hfo hany hgi hG0 hli hL0 (by omega) h1 hk, ?_, ?_⟩
        · obtain ⟨z1, z2, z3, z4, z5, z6, z7, z8, z9⟩ := loseS_ls (putS F (ky first (top + 1)) t) (ky first (b - 1)) t
          refine ⟨⟨_, by rw [z1, z2, hP1]; exact hgi'⟩, fun hb => ?_, ?_, hs, ⟨by rw [z7]; exact hfo.fs, by rw [z8]; rfl, by omega, h1⟩, by rw [z5]; exact hany, by rw [z6]; exact hP2, by rw [z9]; exact hr, ⟨hb0, by omega⟩, htb⟩
          · show mget 0 _ _ _ = t
            rw [z1, z2]
            exact hwb' hb
          · rw [z3, z4]
            exact hli.put (o := b - 1) (by omega) (by omega) (fun hx => by
              rcases hx with hx | hx
              · have := hs _ hx; omega
              · omega) (fun x => by
              unfold Ls
              constructor
              · rintro (hx | ⟨a1, a2, a3⟩)
                · exact .inl (.inl hx)
                · exact .inr a2
              · rintro ((hx | ⟨a1, a2, a3⟩) | hx)
                · exact .inl hx
                · omega
                · exact .inr ⟨q1, hx, h3⟩)
        · exact .inr (.inr ⟨q1, q2, h3, se_lose (first := first) q5.put q2 q8 hr hfo.fs q3 (by omega) (by omega) htb q6⟩)
      · have hk := look_few hFO' (by omega) (by omega) hgf hlf hab hbe h3
        refine ⟨_, put_F hfo hany hgi hG0 hli hL0 (by omega) h1 hk, ?_, ?_⟩
        · exact ⟨⟨_, by rw [hP1]; exact hgi'⟩, hwb', hli.congr (fun x => by
            unfold Ls
            constructor
            · rintro (hx | ⟨a1, a2, a3⟩)
              · exact .inl hx
              · omega
            · rintro (hx | ⟨a1, a2, a3⟩)
              · exact .inl hx
              · omega), hs, hFO', hany, hP2, hr, ⟨hb0, by omega⟩, htb⟩
        · exact .inr (.inl ⟨q1, q2, q8, q3, by omega, e0, l0, q5.put, q6⟩)
    · omega
  · have hk := look_none hFO' (fun o a1 a2 => by
      by_cases hx : S o
      · exact .inr ((hlO o (by omega) (by omega)).2 (.inl hx))
      · by_cases hb : o = b - 1
        · exact .inr ((hlO o (by omega) (by omega)).2 (.inr ⟨by omega, hb, by omega⟩))
        · exact .inl ((hgO o (by omega) (by omega)).2 ⟨by omega, by omega, hx, hb⟩))
    refine ⟨_, put_F hfo hany hgi hG0 hli hL0 (by omega) h1 hk, ?_, ?_⟩
    · exact ⟨⟨_, by rw [hP1]; exact hgi'⟩, hwb', hli.congr (fun x => by
        unfold Ls
        constructor
        · rintro (hx | ⟨a1, a2, a3⟩)
          · exact .inl hx
          · exact .inr ⟨a1, a2, by omega⟩
        · rintro (hx | ⟨a1, a2, a3⟩)
          · exact .inl hx
          · exact .inr ⟨a1, a2, by omega⟩), hs, hFO', hany, hP2, hr, ⟨hb0, by omega⟩, htb⟩
    · rcases he with ⟨q1, q2, q3⟩ | he | ⟨q1, q2, q3, q4⟩
      · exact .inl ⟨q1, q2, q3.put⟩
      · omega
      · exact .inr (.inr ⟨q1, q2, by omega, q4.put⟩)
/-- The next block's first number. -/
theorem startH {first b top t t' i e0 l0 events last gap : Int} {S : Int → Prop} {F : FS} (h : HI first b top t S F) (hd : b = 0 ∨ 3 ≤ top - (b - 1)) (h3 : 3 ≤ top) (hSe : Se (i - 1) e0 l0 gap F) (hi : 1 ≤ i) (hi8 : i ≤ 8) (hg : i = 1 → top + 1 = gap) (hR : Rel e0 l0 events last t' i) (htt : t ≤ t') (ht' : t' ≤ 100000) (h1 : top + 2 < 245) :
    ∃ S' F', feed_Put F.gk F.gv F.lk F.lv F.cl F.r F.any F.now F.fs F.nw F.ct F.ev F.ea F.en F.bs F.si t' (ky first (top + 2)) 1 = some (F'.ls ++ [.b true]) ∧ HI first (top + 2) (top + 2) t' S' F' ∧ Evs i events last gap (top + 2) (top + 2) t' F' := by
  obtain ⟨⟨tm, hgi⟩, hwb, hli, hs, hfo, hany, hnow, hr, ⟨hb0, hb1⟩, htb⟩ := h
  have hG0 : ∀ x, Gs b S top x → 0 ≤ x := fun x hx => hx.1
  have hL1 : ∀ x, Ls b S top x → 0 < x ∧ x < top + 1 := fun x hx => by
    rcases hx with hx | hx
    · have := hs x hx; omega
    · omega
  have hPnow : max F.now (min t' 4611686018427387904) = t' := by omega
  have hgi' : GI first (top + 2) (Gs (top + 2) (Ls b S top) (top + 2)) (fun x => if x = top + 2 then t' else tm x) (F.gk ++ [ky first (top + 2)]) (F.gv ++ [t']) := (hgi.app hG0 t' (by omega) (by omega)).congr (fun x => by
    unfold Gs
    constructor
    · rintro ⟨a1, a2, a3, a4⟩
      by_cases e : x = top + 2
      · exact .inr e
      · refine .inl ⟨a1, by omega, fun hx => a3 (.inl hx), fun hx => a3 (.inr ⟨by omega, hx, by omega⟩)⟩
    · rintro (⟨a1, a2, a3, a4⟩ | rfl)
      · refine ⟨a1, by omega, fun hx => ?_, by omega⟩
        rcases hx with hx | hx
        · exact a3 hx
        · exact a4 hx.2.1
      · exact ⟨by omega, by omega, fun hx => by have := hL1 _ hx; omega, by omega⟩) (fun x _ => rfl)
  have hFO' : FO first (top + 2) (putS F (ky first (top + 2)) t') := ⟨hfo.fs, rfl, by omega, h1⟩
  have hgO : ∀ o, -1000 < o → o < 1000 → (gO first (putS F (ky first (top + 2)) t') o = true ↔ Gs (top + 2) (Ls b S top) (top + 2) o) := fun o a1 a2 => by
    show mhas (F.gk ++ [ky first (top + 2)]) (ky first o) = true ↔ _
    rw [mhas_iff]
    exact hgi'.has (by omega) (by omega)
  have hlO : ∀ o, -1000 < o → o < 1000 → (lO first (putS F (ky first (top + 2)) t') o = true ↔ Ls b S top o) := fun o a1 a2 => hli.has (by omega) (by omega)
  have hP1 : (putS F (ky first (top + 2)) t').gv = F.gv ++ [t'] := by unfold putS; rw [hPnow]
  have hP2 : (putS F (ky first (top + 2)) t').now = t' := by unfold putS; rw [hPnow]
  have hgf : gO first (putS F (ky first (top + 2)) t') (top + 1) = false := by
    cases e : gO first (putS F (ky first (top + 2)) t') (top + 1)
    · rfl
    · have := (hgO _ (by omega) (by omega)).1 e
      exact absurd (show top + 1 = top + 2 - 1 by omega) this.2.2.2
  have hlf : lO first (putS F (ky first (top + 2)) t') (top + 1) = false := by
    cases e : lO first (putS F (ky first (top + 2)) t') (top + 1)
    · rfl
    · have := hL1 _ ((hlO _ (by omega) (by omega)).1 e)
      omega
  have hk := look_few hFO' (h := top + 1) (by omega) (by omega) hgf hlf (fun o a1 a2 => (hgO o (by omega) (by omega)).2 ⟨by omega, a2, fun hx => by have := hL1 _ hx; omega, by omega⟩) (fun o a1 a2 => by
      by_cases hx : Ls b S top o
      · exact .inr ((hlO o (by omega) (by omega)).2 hx)
      · exact .inl ((hgO o (by omega) (by omega)).2 ⟨by omega, by omega, hx, by omega⟩)) (by omega)
  refine ⟨Ls b S top, _, put_F hfo hany hgi hG0 hli (fun x hx => by have := hL1 x hx; omega) (by omega) h1 hk, ?_, ?_⟩
  · refine ⟨⟨_, by rw [hP1]; exact hgi'⟩, fun _ => ?_, hli.congr (fun x => ?_), fun o ho => by have := hL1 o ho; omega, hFO', hany, hP2, hr, ⟨by omega, by omega⟩, by omega⟩
    · have hG : Gs (top + 2) (Ls b S top) (top + 2) (top + 2) := hgi'.top
      have := hgi'.get _ hG
      rw [if_pos rfl] at this
      show mget 0 (F.gk ++ [ky first (top + 2)]) (F.gv ++ [max F.now (min t' 4611686018427387904)]) (ky first (top + 2)) = t'
      rw [hPnow]
      exact this
    · show (Ls b S top x ∨ (0 < top + 2 ∧ x = top + 2 - 1 ∧ 3 ≤ top + 2 - (top + 2 - 1))) ↔ _
      constructor
      · rintro (hx | hx)
        · exact hx
        · omega
      · exact .inl
  · exact .inr (.inl ⟨by omega, hi, hi8, fun e => by have := hg e; omega, by omega, e0, l0, hSe.put, hR⟩)
end Go.Sx.T

