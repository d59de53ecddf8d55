/-
  Calls of functions that write.
-/
import Derived.Test.YtbjpcbghchfifaaGreatDoorSxW
set_option linter.all false
namespace Go.Sx
open Go

def TO.mut : TO → Bool
  | .cells .. | .row .. | .map .. => true
  | _ => false
def TO.isRo : TO → Bool
  | .ro .. => true
  | _ => false
def isLocal : List VOp → Bool
  | [] => true
  | .ro _ :: r => isLocal r
  | .view _ :: r => isLocal r
  | _ :: _ => false
/-- The callee's number j is the caller's number .. -/
def backOf (keep : List Nat) (objs : List TO) (hout : Heap) (n1 : Nat) (j : Nat) : Option Nat :=
  match objs[j]?, keep[j]? with
  | some t, some id =>
    bif Nat.ble (id + 1) n1 then
      bif t.mut then some id else (match hout[j]? with | some .dead => none | some _ => some id | none => none)
    else none
  | none, _ => some (n1 + (j - objs.length))
  | _, _ => none
def mergeO (m : Nat → Option Nat) (keep : List Nat) (objs : List TO) (hout : Heap) (i : Nat) (o : AObj) : AObj :=
  match idx keep i with
  | some j => match objs[j]?, hout[j]? with | some t, some o' => bif t.mut then rnO m o' else o | _, _ => o
  | none => o
def mergeH (m : Nat → Option Nat) (keep : List Nat) (objs : List TO) (hout : Heap) (H : Heap) : Heap :=
  mapI (mergeO m keep objs hout) 0 H ++ (hout.drop objs.length).map (rnO m)

/-- What is written lies among the caller's own objects. -/
def mutKept (n1 : Nat) : List Nat → List TO → Bool
  | k :: ks, t :: ts => (bif t.mut then Nat.ble (k + 1) n1 else true) && mutKept n1 ks ts
  | [], [] => true
  | _, _ => false
def callE {α : Type} (nargs : Nat) (Tin Tout : Tm) (SC : Tld) (H : Heap) (xs : List V) (k : V → Heap → Option α) : Option α :=
  bif Nat.beq xs.length nargs && (Tout.objs.drop Tin.objs.length).all (fun t => !t.isRo) then
    match planOf 0 Tin [] (argFr 0 xs) H with
    | (ops, ops2, keep) => vops ops (argFr 0 xs) H fun fr1 H1 => vops ops2 fr1 H1 fun fr2 H2 =>
      bif isLocal ops2 && noDup keep && mutKept H1.length keep Tin.objs then
        match restrict keep H2 with
        | some h0 => seen Tin (rnFr (idx keep) fr2) h0 fun ls => SC ls fun r => putU Tout r fun fro hout => match lk fro 0 with
          | some v => k (rnV (backOf keep Tin.objs hout H1.length) v) (mergeH (backOf keep Tin.objs hout H1.length) keep Tin.objs hout H1)
          | none => none
        | none => none
      else none
  else none

section
variable {P : Program} {Γ : Env} {E : Nat → Prop} {w0 w : World} {ρ : List Pl} {H H' : Heap} {fr fr' : Fr} {g : Nat → Value}

/-- What is lent alone stays as mutable as it was. -/
theorem setLoc_loc {l : Loc} {a : A} (h : setLoc fr H l a = some (fr', H')) : H'.length = H.length ∧ ∀ (i : Nat) (o : AObj), H'[i]? = some o → ∃ o1, H[i]? = some o1 ∧ o.mut = o1.mut ∧ o.isDead = o1.isDead := by
  cases l with
  | slot s =>
    simp only [setLoc] at h
    split at h
    · cases h; exact ⟨rfl, fun i o ho => ⟨o, ho, rfl, rfl⟩⟩
    · cases h
  | cell id j =>
    simp only [setLoc] at h
    split at h
    · rename_i t cs hid
      cases h
      refine ⟨by simp, fun i o ho => ?_⟩
      rw [List.getElem?_set] at ho
      split at ho
      · rename_i e; subst e
        split at ho
        · cases ho; exact ⟨_, hid, rfl, rfl⟩
        · cases ho
      · exact ⟨o, ho, rfl, rfl⟩
    · cases h
/-- Every object below n is no more than it was. -/
def Less (H H' : Heap) : Prop := H.length ≤ H'.length ∧ ∀ (i : Nat) (o : AObj), i < H.length → H'[i]? = some o → ∃ o1, H[i]? = some o1 ∧ (o.mut = true → o1.mut = true) ∧ (o.isDead = false → o1.isDead = false)
theorem Less.refl (H : Heap) : Less H H := ⟨Nat.le_refl _, fun _ o _ h => ⟨o, h, fun h => h, fun h => h⟩⟩
theorem Less.trans {H H1 H2 : Heap} (h : Less H H1) (k : Less H1 H2) : Less H H2 :=
  ⟨Nat.le_trans h.1 k.1, fun i o hi ho => by
    obtain ⟨o1, h1, a1, b1⟩ := k.2 i o (Nat.lt_of_lt_of_le hi h.1) ho
    obtain ⟨o2, h2, a2, b2⟩ := h.2 i o1 hi h1
    exact ⟨o2, h2, fun x => a2 (a1 x), fun x => b2 (b1 x)⟩⟩
theorem vop_less {v : VOp} {c : Bool} (hv : isLocal [v] = true) (h : vop v fr H = some (fr', H', c)) : Less H H' := by
  cases v with
  | virt => cases hv
  | cut => cases hv
  | move => cases hv
  | ro id =>
    simp only [vop, doRo] at h
    split at h
    · rename_i H2 h2
      cases h
      split at h2
      · rename_i e sz n cols hid
        cases h2
        refine ⟨by simp, fun i o hi ho => ?_⟩
        rw [List.getElem?_set] at ho
        split at ho
        · rename_i e; subst e
          split at ho
          · cases ho; exact ⟨_, hid, fun h => (by cases h), fun _ => rfl⟩
          · rename_i hn; first | exact absurd hi hn | cases ho
        · exact ⟨o, ho, fun h => h, fun h => h⟩
      · cases h2
    · cases h
  | view l =>
    simp only [vop, doView] at h
    split at h
    · rename_i id sz off len hl
      split at h
      · rename_i e sz' n cols hid
        split at h
        · rename_i cols' hcols
          cases hb : Nat.beq sz sz' with
          | false => rw [hb] at h; cases h
          | true =>
            rw [hb] at h
            simp only [cond_true] at h
            split at h
            · rename_i fr2 H2 h2
              cases h
              obtain ⟨h3, h4⟩ := setLoc_loc h2
              refine ⟨by rw [h3]; simp, fun i o hi ho => ?_⟩
              obtain ⟨o1, h5, h6, h7⟩ := h4 i o ho
              rw [List.getElem?_append_left hi] at h5
              exact ⟨o1, h5, fun h => by rw [← h6]; exact h, fun h => by rw [← h7]; exact h⟩
            · cases h
        · cases h
      · cases h
    · cases h
theorem vops_less {α : Type} {k : Fr → Heap → Option α} {r : α} : ∀ (l : List VOp) {ρ : List Pl} {fr : Fr} {H : Heap}, isLocal l = true → HRel E w0 ρ H w → SRel ρ H fr g → vops l fr H k = some r →
    ∃ fr' H', k fr' H' = some r ∧ VOk E w0 w ρ H fr g fr' H' ∧ Less H H'
  | [], ρ, fr, H, _, hr, hs, h => ⟨fr, H, h, ⟨⟨ρ, Ext.refl _ _, hr, hs⟩, fun t v ht => ⟨v, ht⟩⟩, Less.refl H⟩
  | v :: l, ρ, fr, H, hl, hr, hs, h => by
    simp only [vops] at h
    split at h
    · rename_i fr1 H1 c hv
      obtain ⟨hc, h⟩ := chk_some.1 h
      have hl1 : isLocal [v] = true := by cases v <;> first | rfl | (simp [isLocal] at hl)
      have hl2 : isLocal l = true := by cases v <;> simpa [isLocal] using hl
      have hless := vop_less hl1 hv
      have hok := vop_ok hr hs hv hc
      obtain ⟨⟨ρ', a, b, cc⟩, d⟩ := hok
      obtain ⟨fr2, H2, hk, hok2, hless2⟩ := vops_less l hl2 b cc h
      obtain ⟨⟨ρ2, a2, b2, c2⟩, d2⟩ := hok2
      exact ⟨fr2, H2, hk, ⟨⟨ρ2, a.trans a2, b2, c2⟩, fun t v ht => by obtain ⟨v1, h1⟩ := d2 t v ht; exact d t v1 h1⟩, hless.trans hless2⟩
    · cases h

theorem iObjs_kind {rl : Nat → Int} : ∀ {ts : List TO} {rows : List (List Col)} {l r : List Leaf} {H : Heap}, iObjs rl ts rows l = some (H, r) → H.length = ts.length ∧ ∀ (i : Nat) (o : AObj), H[i]? = some o → ∃ t, ts[i]? = some t ∧ o.mut = t.mut ∧ (o.mut = false → o.isDead = false → t.isRo = true)
  | [], [], l, r, H, h => by simp only [iObjs, Option.some.injEq, Prod.mk.injEq] at h; rw [← h.1]; exact ⟨rfl, fun i o ho => by simp at ho⟩
  | t :: ts, c :: cs, l, r, H, h => by
    simp only [iObjs] at h
    split at h
    · rename_i o r1 h1
      split at h
      · rename_i os r2 h2
        cases h
        obtain ⟨a, b⟩ := iObjs_kind h2
        refine ⟨by simp [a], fun i x hx => ?_⟩
        match i with
        | 0 =>
          simp at hx; subst hx
          refine ⟨t, rfl, ?_⟩
          cases t <;> simp only [iO] at h1
          · cases h1; exact ⟨rfl, fun _ h => by cases h⟩
          · split at h1
            · cases h1; exact ⟨rfl, fun h => by cases h⟩
            · cases h1
          · cases h1; exact ⟨rfl, fun h => by cases h⟩
          · cases h1; exact ⟨rfl, fun _ _ => rfl⟩
          · split at h1
            · cases h1; exact ⟨rfl, fun h => by cases h⟩
            · cases h1
        | i + 1 => simp at hx; simpa using b i x hx
      · cases h
    · cases h
  | [], _ :: _, _, _, _, h => by simp [iObjs] at h
  | _ :: _, [], _, _, _, h => by simp [iObjs] at h
theorem inst_kind {T : Tm} {ls : List Leaf} (h : inst T ls = some (fr, H)) : H.length = T.objs.length ∧ ∀ (i : Nat) (o : AObj), H[i]? = some o → ∃ t, T.objs[i]? = some t ∧ o.mut = t.mut ∧ (o.mut = false → o.isDead = false → t.isRo = true) := by
  unfold inst at h
  split at h
  · split at h
    · rename_i h2
      split at h
      · cases h; exact iObjs_kind h2
      · cases h
    · cases h
  · cases h

/-- Where the callee writes. -/
def EcOf (objs : List TO) (ρ3 : List Pl) (k : Nat) : Prop := ∃ (j : Nat) (p : Pl) (t : TO), ρ3[j]? = some p ∧ objs[j]? = some t ∧ t.mut = true ∧ p.real = true ∧ p.blk = k

structure Lent (keep : List Nat) (objs : List TO) (ρ1 : List Pl) (H1 : Heap) (ρ3 ρ4 : List Pl) (hout : Heap) : Prop where
  dup : noDup keep = true
  len3 : ρ3.length = objs.length
  place : ∀ (j id : Nat) (p : Pl), keep[j]? = some id → ρ1[id]? = some p → ρ3[j]? = some p
  mt : ∀ (j : Nat) (t : TO), objs[j]? = some t → t.mut = true → ∃ id, keep[j]? = some id ∧ ∃ o1, H1[id]? = some o1 ∧ o1.mut = true
  pre : ∀ (i : Nat) (p : Pl), ρ3[i]? = some p → ρ4[i]? = some p
  new : ∀ (j : Nat) (o : AObj), hout[j]? = some o → objs.length ≤ j → o.mut = false → o.isDead = true

theorem idx_some : ∀ {keep : List Nat} {j i : Nat}, noDup keep = true → keep[j]? = some i → idx keep i = some j := by
  intro keep j i hd hj
  cases h : idx keep i with
  | none => exact absurd h (idx_mem hj)
  | some j' => rw [noDup_ne hd (idx_get h) hj]

theorem merge_cls {keep : List Nat} {objs : List TO} {ρ1 ρ3 ρ4 : List Pl} {H1 hout : Heap} {m : Nat → Option Nat} (L : Lent keep objs ρ1 H1 ρ3 ρ4 hout) (hl : objs.length ≤ hout.length) {i : Nat} {o : AObj} (h : (mergeH m keep objs hout H1)[i]? = some o) :
    (i < H1.length ∧ H1[i]? = some o ∧ ∀ (j : Nat) (t : TO), objs[j]? = some t → t.mut = true → keep[j]? ≠ some i) ∨
    ∃ (j : Nat) (o' : AObj), hout[j]? = some o' ∧ o = rnO m o' ∧ ((j < objs.length ∧ keep[j]? = some i ∧ i < H1.length ∧ ∃ t, objs[j]? = some t ∧ t.mut = true) ∨ (objs.length ≤ j ∧ i = H1.length + (j - objs.length))) := by
  unfold mergeH at h
  rcases Nat.lt_or_ge i H1.length with hi | hi
  · rw [List.getElem?_append_left (by rw [mapI_len]; exact hi), mapI_get, List.getElem?_eq_getElem hi] at h
    simp only [Nat.zero_add, Option.map_some, Option.some.injEq] at h
    unfold mergeO at h
    split at h
    · rename_i j hj
      have hkj := idx_get hj
      split at h
      · rename_i t o' ht ho'
        cases hm : t.mut with
        | true =>
          rw [hm] at h
          exact .inr ⟨j, o', ho', h.symm, .inl ⟨(List.getElem?_eq_some_iff.1 ht).1, hkj, hi, t, ht, hm⟩⟩
        | false =>
          rw [hm] at h
          refine .inl ⟨hi, by rw [List.getElem?_eq_getElem hi]; exact congrArg some h, fun j' t' ht' hm' hk' => ?_⟩
          have := noDup_ne L.dup hkj hk'
          subst this
          rw [ht] at ht'; cases ht'; rw [hm] at hm'; cases hm'
      · rename_i hno
        refine .inl ⟨hi, by rw [List.getElem?_eq_getElem hi]; exact congrArg some h, fun j' t' ht' hm' hk' => ?_⟩
        have := noDup_ne L.dup hkj hk'
        subst this
        have hjl := (List.getElem?_eq_some_iff.1 ht').1
        exact hno t' _ ht' (List.getElem?_eq_getElem (by omega))
    · rename_i hn
      refine .inl ⟨hi, by rw [List.getElem?_eq_getElem hi]; exact congrArg some h, fun j' t' ht' hm' hk' => ?_⟩
      exact absurd hn (idx_mem hk')
  · rw [List.getElem?_append_right (by rw [mapI_len]; exact hi), mapI_len, List.getElem?_map, List.getElem?_drop] at h
    simp only [Option.map_eq_some_iff] at h
    obtain ⟨o', ho', rfl⟩ := h
    exact .inr ⟨_, o', ho', rfl, .inr ⟨by omega, by omega⟩⟩

theorem merge_ok {keep : List Nat} {objs : List TO} {ρ1 ρ3 ρ4 : List Pl} {H1 hout : Heap} {w' : World} (hr1 : HRel E w0 ρ1 H1 w) (L : Lent keep objs ρ1 H1 ρ3 ρ4 hout) (h4 : HRel (EcOf objs ρ3) w ρ4 hout w') :
    HRel E w0 (ρ1 ++ ρ4.drop objs.length) (mergeH (backOf keep objs hout H1.length) keep objs hout H1) w' ∧
    Ext ρ1 H1 (ρ1 ++ ρ4.drop objs.length) (mergeH (backOf keep objs hout H1.length) keep objs hout H1) ∧
    Mp (backOf keep objs hout H1.length) ρ4 hout (ρ1 ++ ρ4.drop objs.length) (mergeH (backOf keep objs hout H1.length) keep objs hout H1) := by
  have hl4 : objs.length ≤ ρ4.length := by
    rcases Nat.eq_zero_or_pos objs.length with h0 | h0
    · omega
    · have := L.pre (objs.length - 1) _ (List.getElem?_eq_getElem (by rw [L.len3]; omega))
      have := (List.getElem?_eq_some_iff.1 this).1
      omega
  have hlo : objs.length ≤ hout.length := by rw [← h4.len]; exact hl4
  have hl1 := hr1.len
  have cls := fun {i : Nat} {o : AObj} => merge_cls (m := backOf keep objs hout H1.length) (i := i) (o := o) L hlo
  have hmlen : (mergeH (backOf keep objs hout H1.length) keep objs hout H1).length = H1.length + (hout.length - objs.length) := by simp [mergeH, mapI_len]
  generalize hH3 : mergeH (backOf keep objs hout H1.length) keep objs hout H1 = H3 at cls hmlen ⊢
  -- places
  have pU : ∀ {i : Nat}, i < H1.length → (ρ1 ++ ρ4.drop objs.length)[i]? = ρ1[i]? := fun hi => List.getElem?_append_left (by omega)
  have pN : ∀ {j : Nat}, objs.length ≤ j → (ρ1 ++ ρ4.drop objs.length)[H1.length + (j - objs.length)]? = ρ4[j]? := by
    intro j hj
    rw [List.getElem?_append_right (by omega), List.getElem?_drop]
    congr 1; omega
  have hx : Ext ρ1 H1 (ρ1 ++ ρ4.drop objs.length) H3 := by
    refine ⟨fun i p hp => by rw [pU (by have := (List.getElem?_eq_some_iff.1 hp).1; omega)]; exact hp, fun i hg => ?_⟩
    unfold Gone at hg ⊢
    have hi : i < H3.length := by rw [hmlen]; have := (List.getElem?_eq_some_iff.1 hg).1; omega
    rcases cls (List.getElem?_eq_getElem hi) with ⟨_, hU, _⟩ | ⟨j, o', ho', _, ⟨hj, hkj, hi1, t, ht, hm⟩ | ⟨hj, hi1⟩⟩
    · rw [hg] at hU; rw [List.getElem?_eq_getElem hi]; exact hU.symm
    · obtain ⟨id, hid, o1, ho1, hm1⟩ := L.mt j t ht hm
      rw [hkj] at hid; cases hid
      rw [hg] at ho1; cases ho1; cases hm1
    · have := (List.getElem?_eq_some_iff.1 hg).1; omega
  have hmp : Mp (backOf keep objs hout H1.length) ρ4 hout (ρ1 ++ ρ4.drop objs.length) H3 := by
    have key : ∀ {j i : Nat}, backOf keep objs hout H1.length j = some i → (∃ t, objs[j]? = some t ∧ keep[j]? = some i ∧ i < H1.length ∧ (t.mut = true ∨ hout[j]? ≠ some .dead)) ∨ (objs.length ≤ j ∧ i = H1.length + (j - objs.length)) := by
      intro j i h
      unfold backOf at h
      split at h
      · rename_i t id ht hid
        cases hb : Nat.ble (id + 1) H1.length with
        | false => rw [hb] at h; cases h
        | true =>
          rw [hb] at h
          simp only [cond_true] at h
          have hlt := Nat.le_of_ble_eq_true hb
          cases hm : t.mut with
          | true => rw [hm] at h; cases h; exact .inl ⟨t, ht, hid, hlt, .inl hm⟩
          | false =>
            rw [hm] at h
            simp only [cond_false] at h
            split at h
            · cases h
            · rename_i o hne ho; cases h; refine .inl ⟨t, ht, hid, hlt, .inr fun h => ?_⟩; rw [ho] at h; cases h; exact hne rfl
            · cases h
      · rename_i hn; cases h; exact .inr ⟨by rw [List.getElem?_eq_none_iff] at hn; exact hn, rfl⟩
      · cases h
    refine ⟨fun {j i p} hj hp => ?_, fun {j i} hj hg => ?_⟩
    · rcases key hj with ⟨t, ht, hkj, hi, _⟩ | ⟨hjl, rfl⟩
      · rw [pU hi]
        have h1 : ρ1[i]? = some ρ1[i] := List.getElem?_eq_getElem (by omega)
        have := L.pre _ _ (L.place j i _ hkj h1)
        rw [hp] at this; cases this
        exact h1
      · rw [pN hjl]; exact hp
    · unfold Gone at hg ⊢
      rcases key hj with ⟨t, ht, hkj, hi, hm⟩ | ⟨hjl, rfl⟩
      · rcases hm with hm | hm
        · have hi3 : i < H3.length := by omega
          rcases cls (List.getElem?_eq_getElem hi3) with ⟨_, _, hU⟩ | ⟨j', o', ho', he, ⟨hj', hkj', _⟩ | ⟨hj', hi'⟩⟩
          · exact absurd hkj (hU j t ht hm)
          · have := noDup_ne L.dup hkj hkj'
            subst this
            rw [hg] at ho'; cases ho'
            rw [List.getElem?_eq_getElem hi3, he]; rfl
          · omega
        · exact absurd hg hm
      · have hjo := (List.getElem?_eq_some_iff.1 hg).1
        have hi3 : H1.length + (j - objs.length) < H3.length := by omega
        rcases cls (List.getElem?_eq_getElem hi3) with ⟨h, _, _⟩ | ⟨j', o', ho', he, ⟨_, _, h, _⟩ | ⟨hj', hi'⟩⟩
        · omega
        · omega
        · have : j = j' := by omega
          subst this
          rw [hg] at ho'; cases ho'
          rw [List.getElem?_eq_getElem hi3, he]; rfl
  -- the callee's places among the caller's
  have pC : ∀ {i j : Nat} {p : Pl}, ((j < objs.length ∧ keep[j]? = some i ∧ i < H1.length ∧ ∃ t, objs[j]? = some t ∧ t.mut = true) ∨ (objs.length ≤ j ∧ i = H1.length + (j - objs.length))) → (ρ1 ++ ρ4.drop objs.length)[i]? = some p → ρ4[j]? = some p := by
    rintro i j p (⟨_, hkj, hi, _⟩ | ⟨hj, rfl⟩) hp
    · rw [pU hi] at hp; exact L.pre _ _ (L.place j i p hkj hp)
    · rw [pN hj] at hp; exact hp
  -- the callee's blocks are those of the caller's objects that were lent
  have ec : ∀ {k : Nat}, EcOf objs ρ3 k → ∃ (i : Nat) (p : Pl) (o1 : AObj), ρ1[i]? = some p ∧ H1[i]? = some o1 ∧ o1.mut = true ∧ p.real = true ∧ p.blk = k ∧ ∃ (j : Nat) (t : TO), objs[j]? = some t ∧ t.mut = true ∧ keep[j]? = some i := by
    rintro k ⟨j, p, t, hp, ht, hm, hrl, hb⟩
    obtain ⟨id, hid, o1, ho1, hm1⟩ := L.mt j t ht hm
    have hlt : id < ρ1.length := by rw [hl1]; exact (List.getElem?_eq_some_iff.1 ho1).1
    have h1 : ρ1[id]? = some ρ1[id] := List.getElem?_eq_getElem hlt
    have := L.place j id _ hid h1
    rw [hp] at this; cases this
    exact ⟨id, _, o1, h1, ho1, hm1, hrl, hb, j, t, ht, hm, hid⟩
  have ecU : ∀ {i : Nat} {p : Pl} {o : AObj}, ρ1[i]? = some p → H1[i]? = some o → o.isDead = false → p.real = true → (∀ (j : Nat) (t : TO), objs[j]? = some t → t.mut = true → keep[j]? ≠ some i) → ¬ EcOf objs ρ3 p.blk := by
    intro i p o hp ho hd hrl hU hE
    obtain ⟨i', p', o1, hp', ho1, hm1, hrl', hb, j, t, ht, hm, hkj⟩ := ec hE
    exact hr1.inj i' i p' p o1 o hp' hp ho1 ho hm1 hd hrl' hrl (fun e => hU j t ht hm (e ▸ hkj)) hb
  -- U against C
  have uc : ∀ {i i' j : Nat} {p q : Pl} {o o' : AObj}, ρ1[i]? = some p → H1[i]? = some o → o.isDead = false → p.real = true → (∀ (j : Nat) (t : TO), objs[j]? = some t → t.mut = true → keep[j]? ≠ some i) →
      hout[j]? = some o' → o'.isDead = false → ((j < objs.length ∧ keep[j]? = some i' ∧ i' < H1.length ∧ ∃ t, objs[j]? = some t ∧ t.mut = true) ∨ (objs.length ≤ j ∧ i' = H1.length + (j - objs.length))) → ρ4[j]? = some q → q.real = true → p.blk ≠ q.blk := by
    intro i i' j p q o o' hp ho hd hrl hU ho' hd' hC hq hqr hb
    rcases hC with ⟨hj, hkj, hi', t, ht, hm⟩ | ⟨hj, _⟩
    · refine ecU hp ho hd hrl hU ⟨j, q, t, ?_, ht, hm, hqr, hb.symm⟩
      have hj3 : j < ρ3.length := by rw [L.len3]; exact hj
      have h3 : ρ3[j]? = some ρ3[j] := List.getElem?_eq_getElem hj3
      have := L.pre _ _ h3
      rw [hq] at this; cases this; exact h3
    · have hm : o'.mut = true := by
        cases hm : o'.mut with
        | true => rfl
        | false => rw [L.new j o' ho' hj hm] at hd'; cases hd'
      rcases h4.own j q o' hq ho' hm hqr with h | h
      · exact ecU hp ho hd hrl hU (hb ▸ h)
      · have := real_lt hrl hd (hr1.obj i p o hp ho); omega
  have nd : ∀ {o : AObj}, o.mut = true → o.isDead = false := fun {o} h => by cases o <;> first | rfl | cases h
  refine ⟨⟨by simp [hmlen, hl1, h4.len], ?_, ?_, ?_, ?_⟩, hx, hmp⟩
  · intro i p o hp ho
    rcases cls ho with ⟨hi, hU, hno⟩ | ⟨j, o', ho', rfl, hC⟩
    · rw [pU hi] at hp
      have hob := hr1.obj i p o hp hU
      cases hrl : p.real with
      | false => exact hob.virt hx hrl
      | true =>
        cases hd : o.isDead with
        | true => cases o <;> first | (cases hd; done) | trivial
        | false => exact hob.ext hx (h4.kept.block _ (real_lt hrl hd hob) (ecU hp hU hd hrl hno))
    · exact rnO_ok hmp (h4.obj j p o' (pC hC hp) ho')
  · intro i i' p q o o2 hp hq ho ho2 hm hd hpr hqr hij
    rcases cls ho with ⟨hi, hU, hno⟩ | ⟨j, o', ho', rfl, hC⟩ <;> rcases cls ho2 with ⟨hi', hU', hno'⟩ | ⟨j', o2', ho2', rfl, hC'⟩
    · rw [pU hi] at hp; rw [pU hi'] at hq
      exact hr1.inj i i' p q o o2 hp hq hU hU' hm hd hpr hqr hij
    · rw [pU hi] at hp
      rw [(rnO_mut _).2] at hd
      exact uc hp hU (nd hm) hpr hno ho2' hd hC' (pC hC' hq) hqr
    · rw [pU hi'] at hq
      rw [(rnO_mut _).1] at hm
      exact (uc hq hU' hd hqr hno' ho' (nd hm) hC (pC hC hp) hpr).symm
    · rw [(rnO_mut _).1] at hm
      rw [(rnO_mut _).2] at hd
      refine h4.inj j j' p q o' o2' (pC hC hp) (pC hC' hq) ho' ho2' hm hd hpr hqr fun e => hij ?_
      subst e
      rcases hC with ⟨_, hkj, _⟩ | ⟨hj, rfl⟩ <;> rcases hC' with ⟨hj', hkj', _⟩ | ⟨hj', rfl⟩
      · rw [hkj] at hkj'; cases hkj'; rfl
      · omega
      · omega
      · rfl
  · intro i p o hp ho hm hrl
    have viaEc : ∀ {k : Nat}, EcOf objs ρ3 k → E k ∨ w0.heap.size ≤ k := by
      intro k hE
      obtain ⟨i', p', o1, hp', ho1, hm1, hrl', hb, _⟩ := ec hE
      rw [← hb]; exact hr1.own i' p' o1 hp' ho1 hm1 hrl'
    rcases cls ho with ⟨hi, hU, hno⟩ | ⟨j, o', ho', rfl, hC⟩
    · rw [pU hi] at hp; exact hr1.own i p o hp hU hm hrl
    · rw [(rnO_mut _).1] at hm
      rcases h4.own j p o' (pC hC hp) ho' hm hrl with h | h
      · exact viaEc h
      · right; have := hr1.kept.size; omega
  · refine ⟨h4.kept.os.trans hr1.kept.os, h4.kept.tape.trans hr1.kept.tape, h4.kept.output.trans hr1.kept.output, Nat.le_trans hr1.kept.size h4.kept.size, fun k hk he => ?_⟩
    rw [h4.kept.block k (Nat.lt_of_lt_of_le hk hr1.kept.size) fun hE => ?_]
    · exact hr1.kept.block k hk he
    · obtain ⟨i', p', o1, hp', ho1, hm1, hrl', hb, _⟩ := ec hE
      rcases hr1.own i' p' o1 hp' ho1 hm1 hrl' with h | h
      · exact he (hb ▸ h)
      · omega

theorem mutKept_ok {n1 : Nat} : ∀ {ks : List Nat} {ts : List TO}, mutKept n1 ks ts = true → ks.length = ts.length ∧ ∀ (j : Nat) (t : TO), ts[j]? = some t → t.mut = true → ∃ id, ks[j]? = some id ∧ id < n1
  | [], [], _ => ⟨rfl, fun j t h => by simp at h⟩
  | k :: ks, t :: ts, h => by
    simp only [mutKept, Bool.and_eq_true] at h
    obtain ⟨a, b⟩ := mutKept_ok h.2
    refine ⟨by simp [a], fun j x hx hm => ?_⟩
    match j with
    | 0 =>
      simp at hx; subst hx
      have := h.1
      rw [hm] at this
      exact ⟨k, rfl, Nat.le_of_ble_eq_true this⟩
    | j + 1 => simp at hx; simpa using b j x hx hm
  | [], _ :: _, h => by simp [mutKept] at h
  | _ :: _, [], h => by simp [mutKept] at h

def Env.addE (Γ : Env) (f : FuncId) (nargs : Nat) (Tin Tout : Tm) (SC : Tld) : Env :=
  ⟨fun p g H xs k => bif Nat.beq g f then (bif p then Option.none else callE nargs Tin Tout SC H xs k) else Γ.call p g H xs k, Γ.ext, Γ.eqA, Γ.force, fun g => bif Nat.beq g f then true else Γ.eff g⟩

theorem EnvOk.addE (hΓ : EnvOk P Γ) {f : FuncId} {nargs k0 : Nat} {Tin Tout : Tm} {S : List Leaf → Option (List Leaf)} {pure : Bool} (hf : FnC P f pure nargs k0 Tin Tout S) {SC : Tld} (hSC : Says SC S) : EnvOk P (Γ.addE f nargs Tin Tout SC) := by
  refine ⟨fun p g H xs k r h => ?_, hΓ.ext, hΓ.eqA⟩
  simp only [Env.addE] at h
  cases hb : Nat.beq g f with
  | false => rw [hb] at h; exact hΓ.ok p g H xs k r h
  | true =>
    rw [hb] at h
    simp only [cond_true] at h
    have e := Nat.eq_of_beq_eq_true hb
    subst e
    refine ⟨hf.fn, ?_⟩
    cases p with
    | true => cases h
    | false =>
    simp only [cond_false] at h
    unfold callE at h
    cases hn : (Nat.beq xs.length nargs && (Tout.objs.drop Tin.objs.length).all (fun t => !t.isRo)) with
    | false => rw [hn] at h; cases h
    | true =>
    rw [hn] at h
    simp only [cond_true] at h
    rw [Bool.and_eq_true] at hn
    generalize planOf 0 Tin [] (argFr 0 xs) H = pl at h
    obtain ⟨ops, ops2, keep⟩ := pl
    simp only at h
    obtain ⟨fr1, H1, h, par1⟩ := vops_par ops h
    obtain ⟨fr2, H2, h, par2⟩ := vops_par ops2 h
    cases hc : (isLocal ops2 && noDup keep && mutKept H1.length keep Tin.objs) with
    | false => rw [hc] at h; cases h
    | true =>
    rw [hc] at h
    simp only [cond_true] at h
    simp only [Bool.and_eq_true] at hc
    obtain ⟨⟨hloc, hdup⟩, hmk⟩ := hc
    split at h
    case h_2 => cases h
    rename_i h0 hres
    obtain ⟨ls, h, par3⟩ := seen_par h
    obtain ⟨r1, hS, h⟩ := hSC _ _ _ h
    obtain ⟨fro, hout, hi, h⟩ := putU_some h
    split at h
    case h_2 => cases h
    rename_i v hv
    refine ⟨_, _, h, .inr ⟨rfl, ?_⟩⟩
    intro E w0 w ρ us hr hus
    obtain ⟨fr1', H1', e1, ⟨ρ1, x1, hr1, hs1⟩, _⟩ := vops_ok (k := fun a b => some (a, b)) ops hr (argFr_rel hus) (par1 _)
    simp only [Option.some.injEq, Prod.mk.injEq] at e1
    obtain ⟨rfl, rfl⟩ := e1
    obtain ⟨fr2', H2', e2, ⟨⟨ρ2, x2, hr2, hs2⟩, _⟩, hless⟩ := vops_less (k := fun a b => some (a, b)) ops2 hloc hr1 hs1 (par2 _)
    simp only [Option.some.injEq, Prod.mk.injEq] at e2
    obtain ⟨rfl, rfl⟩ := e2
    have hR := Rn.of hres hr2.len
    have hr3 := restrict_rel hres hdup hr2
    have hs3 : SRel (rnP ρ2 keep) h0 (rnFr (idx keep) fr2') (fun t => us.getD t undef) := by
      intro t x hl
      rw [lk_rnFr] at hl
      simp only [Option.map_eq_some_iff] at hl
      obtain ⟨x0, hx0, rfl⟩ := hl
      exact rnV_ok hR.mp (hs2 t x0 hx0)
    obtain ⟨ls', fr', H', e3, hi3, hr4, hs4, _, hlen4, hle4⟩ := seen_ok (k := some) (par3 _) hr3 hs3
    cases e3
    obtain ⟨hkl, hmk⟩ := mutKept_ok hmk
    have hkind := inst_kind hi3
    have hrc : HRel (EcOf Tin.objs (rnP ρ2 keep)) w (rnP ρ2 keep) H' w := by
      refine ⟨hr4.len, hr4.obj, hr4.inj, fun i p o hp ho hm hrl => .inl ?_, Kept.refl _ _⟩
      obtain ⟨t, ht, hmt, _⟩ := hkind.2 i o ho
      exact ⟨i, p, t, hp, ht, by rw [← hmt]; exact hm, hrl, rfl⟩
    refine Calls.mono (hf.run ls r1 fr' H' _ w w (rnP ρ2 keep) us hS hi3 hrc (by rw [hus.len]; exact Nat.eq_of_beq_eq_true hn.1) hs4) ?_
    rintro e w' ⟨u, ρ4, fro', hout', v', rfl, hpre, hi', hr5, hv', hu, _⟩
    rw [hi] at hi'; cases hi'
    rw [hv] at hv'; cases hv'
    have hL : Lent keep Tin.objs ρ1 H1' (rnP ρ2 keep) ρ4 hout := by
      refine ⟨hdup, by rw [hr4.len, hkind.1], fun j id p hj hp => hR.place hj (x2.pl _ _ hp), fun j t ht hm => ?_, hpre, fun j o ho hj hm => ?_⟩
      · obtain ⟨id, hid, hlt⟩ := hmk j t ht hm
        have hj' : j < H'.length := by rw [hkind.1]; exact (List.getElem?_eq_some_iff.1 ht).1
        obtain ⟨t', ht', hmt, _⟩ := hkind.2 j _ (List.getElem?_eq_getElem hj')
        rw [ht] at ht'; cases ht'
        obtain ⟨o0, ho0, hm0, _⟩ := hle4 j _ (List.getElem?_eq_getElem hj')
        obtain ⟨o2, ho2, ho2'⟩ := hR.get j id hid
        rw [ho0] at ho2'; cases ho2'
        have hm2 := hm0 (by rw [hmt]; exact hm)
        rw [(rnO_mut _).1] at hm2
        obtain ⟨o1, ho1, hm1, _⟩ := hless.2 id o2 hlt ho2
        exact ⟨id, hid, o1, ho1, hm1 hm2⟩
      · obtain ⟨t, ht, _, hro⟩ := (inst_kind hi).2 j o ho
        cases hd : o.isDead with
        | true => rfl
        | false =>
          have h1 := hro hm hd
          have h2 := List.all_eq_true.1 hn.2 t (List.mem_of_getElem? (i := j - Tin.objs.length) (by rw [List.getElem?_drop, ← ht]; congr 1; omega))
          rw [h1] at h2; cases h2
    obtain ⟨hm1, hm2, hm3⟩ := merge_ok hr1 hL hr5
    exact ⟨u, _, rfl, x1.trans hm2, hm1, rnV_ok hm3 hu⟩
end
end Go.Sx
