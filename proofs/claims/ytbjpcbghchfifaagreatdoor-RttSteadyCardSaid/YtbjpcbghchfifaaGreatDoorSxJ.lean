/-
  Maps that are made, written, cut.
-/
import Derived.Test.YtbjpcbghchfifaaGreatDoorSxI
set_option linter.all false
namespace Go.Sx
open Go

def midx : List Int → Int → Nat
  | [], _ => 0
  | k :: ks, n => bif k == n then 0 else midx ks n + 1
def mputK (ks : List Int) (n : Int) : List Int := bif mhas ks n then ks else ks ++ [n]
def mputV {α : Type} (ks : List Int) (l : List α) (n : Int) (v : α) : List α := bif mhas ks n then l.set (midx ks n) v else l ++ [v]
def mdelK (ks : List Int) (n : Int) : List Int := bif mhas ks n then ks.eraseIdx (midx ks n) else ks
def mdelV {α : Type} (ks : List Int) (l : List α) (n : Int) : List α := bif mhas ks n then l.eraseIdx (midx ks n) else l

def eMakeMap (H : Heap) (tl : Tab) (t : TypeId) : Option (V × Heap) :=
  match kd tl t with
  | some (.map kt et) =>
    match kd tl kt, kd tl et with
    | some (.int k), some (.int k2) => some (.at (.map H.length), H ++ [.map k [] (.int k2 [])])
    | some (.int k), some .bool => some (.at (.map H.length), H ++ [.map k [] (.bool [])])
    | _, _ => none
  | _ => none
def eMapUpdate (H : Heap) (tl : Tab) (t : TypeId) (m k x : V) : Option Heap :=
  match kd tl t, m, k, x with
  | some (.map kt _), .at (.map id), .at (.raw (.int kk n)), .at (.raw y) =>
    match kd tl kt, H[id]?, y with
    | some (.int k1), some (.map k3 ks (.int k4 l)), .int k5 z =>
      bif decide (k1 = kk) && decide (k3 = kk) && decide (k4 = k5) then some (H.set id (.map k3 (mputK ks n) (.int k4 (mputV ks l n z)))) else none
    | some (.int k1), some (.map k3 ks (.bool l)), .bool z =>
      bif decide (k1 = kk) && decide (k3 = kk) then some (H.set id (.map k3 (mputK ks n) (.bool (mputV ks l n z)))) else none
    | _, _, _ => none
  | _, _, _, _ => none
def eDelete (H : Heap) (tl : Tab) (t : TypeId) (m k : V) : Option Heap :=
  match kd tl t, m, k with
  | some (.map kt _), .at (.map id), .at (.raw (.int kk n)) =>
    match kd tl kt, H[id]? with
    | some (.int k1), some (.map k3 ks (.int k4 l)) => bif decide (k1 = kk) && decide (k3 = kk) then some (H.set id (.map k3 (mdelK ks n) (.int k4 (mdelV ks l n)))) else none
    | some (.int k1), some (.map k3 ks (.bool l)) => bif decide (k1 = kk) && decide (k3 = kk) then some (H.set id (.map k3 (mdelK ks n) (.bool (mdelV ks l n)))) else none
    | _, _ => none
  | _, _, _ => none

section
variable {P : Program} {E : Nat → Prop} {w0 w : World} {ρ : List Pl} {H : Heap}

theorem eMakeMap_ok {tl : Tab} (htl : TabOk P tl) (hr : HRel E w0 ρ H w) {t : TypeId} {v : V} {H' : Heap} (h : eMakeMap H tl t = some (v, H')) : EOk P E w0 w ρ H (Instr.makeMap t none) v H' := by
  have key : ∀ (k : IntKind) (c : Col), c.len = 0 → v = .at (.map H.length) → H' = H ++ [.map k [] c] → EOk P E w0 w ρ H (Instr.makeMap t none) v H' := by
    intro k c hc hv hH
    subst hv hH
    have hx := Ext.push hr.len ⟨w.heap.size, 0, 0, true⟩ (.map k [] c)
    refine ⟨_, w.alloc (.map #[] 0), _, by simp [Instr.makeMap], hx, hr.push rfl rfl rfl (by simp) (fun k hk => heap_alloc_old w _ k hk) (fun _ => Nat.le_refl _) ⟨rfl, by simpa using hc, #[], 0, heap_alloc_new w _, by simp, fun i e he => by simp at he, fun i j e f he => by simp at he⟩, .inr ⟨⟨w.heap.size, 0, 0, true⟩, by rw [← hr.len]; simp, rfl⟩⟩
  unfold eMakeMap at h
  split at h
  · split at h
    · cases h; exact key _ _ rfl rfl rfl
    · cases h; exact key _ _ rfl rfl rfl
    · cases h
  · cases h

theorem findNow_idx {kk : IntKind} {n : Int} : ∀ (es : List MapEntry) (ks : List Int) (j : Nat), es.length = ks.length → (∀ (i : Nat) (e : MapEntry), es[i]? = some e → e.key = .int kk (ks.getD i 0)) →
    (mhas ks n = false ∧ Instr.findNow (.int kk) (.int kk n) es j = some none) ∨
    (mhas ks n = true ∧ midx ks n < ks.length ∧ ks.getD (midx ks n) 0 = n ∧ ∃ v, Instr.findNow (.int kk) (.int kk n) es j = some (some (j + midx ks n, v))) := by
  intro es
  induction es with
  | nil => intro ks j hl _; cases ks with | nil => exact .inl ⟨rfl, rfl⟩ | cons k ks => cases hl
  | cons e es ih =>
    intro ks j hl hk
    cases ks with
    | nil => cases hl
    | cons k ks =>
      have h0 : e.key = .int kk k := hk 0 e rfl
      by_cases hn : k = n
      · subst hn
        exact .inr ⟨by simp [mhas], by simp [midx], by simp [midx], e.val, by simp [Instr.findNow, h0, Instr.sameNow, midx]⟩
      · have hb : (k == n) = false := by simpa using hn
        have hb' : (n == k) = false := by simpa using fun h => hn h.symm
        rcases ih ks (j + 1) (by simpa using hl) (fun i e' he' => by have := hk (i + 1) e' (by simpa using he'); simpa using this) with ⟨h1, h2⟩ | ⟨h1, h3, h4, v, h2⟩
        · exact .inl ⟨by simp [mhas, hb, h1], by simp [Instr.findNow, h0, Instr.sameNow, hb', h2]⟩
        · exact .inr ⟨by simp [mhas, hb, h1], by simp [midx, hb]; omega, by simpa [midx, hb] using h4, v, by simp [Instr.findNow, h0, Instr.sameNow, hb', h2, midx, hb]; omega⟩

theorem heap_set_obj {b : Nat} {o : Obj} (w : World) (hb : b < w.heap.size) : ({ w with heap := w.heap.setIfInBounds b o } : World).heap[b]? = some o := by simp [hb]

/-- m[k] = v on a map of plain values, as the model carries it out. -/
theorem update_run {t kt et : TypeId} {kk : IntKind} {n : Int} {es : Array MapEntry} {clock b : Nat} {ks : List Int} {val : Value}
    (hu : P.underlying t = some (.map kt et)) (hk : P.underlying kt = some (.int kk)) (hb : w.heap[b]? = some (.map es clock))
    (hl : es.size = ks.length) (hkeys : ∀ (i : Nat) (e : MapEntry), es[i]? = some e → e.key = .int kk (ks.getD i 0)) :
    (Instr.mapUpdate t (.map (some b)) (.int kk n) val).run P w = .ok () { w with heap := w.heap.setIfInBounds b (bif mhas ks n then .map (es.modify (midx ks n) fun e => { e with key := .int kk n, val := val }) clock else .map (es.push { key := .int kk n, val := val, born := clock }) (clock + 1)) } := by
  have hg : (getObj b).run P w = .ok (.map es clock) w := by simp [getObj, Sem.run, hb]
  have hset : ∀ o, (setObj b o).run P w = .ok () { w with heap := w.heap.setIfInBounds b o } := fun o => by simp [setObj, Sem.run, hb]
  have hck1 : ∀ x d, (Instr.checkKey x (d + 1) kt (.int kk n)).run P w = .ok () w := fun x d => by simp [Instr.checkKey, run_underlying hk]
  have hck : (Instr.checkKey false 10000 kt (.int kk n)).run P w = .ok () w := hck1 _ 9999
  rcases findNow_idx (kk := kk) (n := n) es.toList ks 0 (by simpa using hl) (fun i e he => hkeys i e (by simpa using he)) with ⟨h1, h2⟩ | ⟨h1, h3, h4, v, h2⟩
  · have hfk : (Instr.findKey kt (.int kk n) es.toList).run P w = .ok none w := by simp [Instr.findKey, run_underlying hk, h2]
    simp only [Instr.mapUpdate, Sem.run_bind, run_underlying hu, Result.andThen_ok, hg, hck, hfk, hset, h1, cond_false]
  · have hfk : (Instr.findKey kt (.int kk n) es.toList).run P w = .ok (some (0 + midx ks n, v)) w := by simp [Instr.findKey, run_underlying hk, h2]
    have hlt : midx ks n < es.size := by omega
    have hkey : ((es[midx ks n]?).map (·.key)).getD (.int kk n) = .int kk n := by
      rw [Array.getElem?_eq_getElem hlt]
      simp only [Option.map_some, Option.getD_some]
      rw [hkeys _ _ (Array.getElem?_eq_getElem hlt), h4]
    have hst1 : ∀ d, Instr.sameBits d (.int kk n) (.int kk n) = true := fun d => by simp [Instr.sameBits]
    have hst : (Instr.keyThatStays (.int kk n) (.int kk n)).run P w = .ok (.int kk n) w := by
      simp only [Instr.keyThatStays, hst1, if_true]; rfl
    simp only [Instr.mapUpdate, Sem.run_bind, run_underlying hu, Result.andThen_ok, hg, hck, hfk, Nat.zero_add, hkey, hst, hset, h1, cond_true]

theorem delete_run {t kt et ty : TypeId} {kk : IntKind} {n : Int} {es : Array MapEntry} {clock b : Nat} {ks : List Int} {ts : Array TypeId}
    (hts : ts[0]? = some t) (hu : P.underlying t = some (.map kt et)) (hk : P.underlying kt = some (.int kk)) (hb : w.heap[b]? = some (.map es clock))
    (hl : es.size = ks.length) (hkeys : ∀ (i : Nat) (e : MapEntry), es[i]? = some e → e.key = .int kk (ks.getD i 0)) :
    (Builtin.delete_ ts ty #[.map (some b), .int kk n]).run P w = .ok (.tuple #[]) { w with heap := w.heap.setIfInBounds b (bif mhas ks n then .map (es.eraseIdxIfInBounds (midx ks n)) clock else .map es clock) } := by
  have hg : (getObj b).run P w = .ok (.map es clock) w := by simp [getObj, Sem.run, hb]
  have hset : ∀ o, (setObj b o).run P w = .ok () { w with heap := w.heap.setIfInBounds b o } := fun o => by simp [setObj, Sem.run, hb]
  have hck1 : ∀ x d, (Instr.checkKey x (d + 1) kt (.int kk n)).run P w = .ok () w := fun x d => by simp [Instr.checkKey, run_underlying hk]
  have hck : ∀ x, (Instr.checkKey x 10000 kt (.int kk n)).run P w = .ok () w := fun x => hck1 x 9999
  rcases findNow_idx (kk := kk) (n := n) es.toList ks 0 (by simpa using hl) (fun i e he => hkeys i e (by simpa using he)) with ⟨h1, h2⟩ | ⟨h1, h3, h4, v, h2⟩
  · have hfk : (Instr.findKey kt (.int kk n) es.toList).run P w = .ok none w := by simp [Instr.findKey, run_underlying hk, h2]
    simp [Builtin.delete_, hts, run_underlying hu, hg, hck, hfk, hset, h1]
  · have hfk : (Instr.findKey kt (.int kk n) es.toList).run P w = .ok (some (0 + midx ks n, v)) w := by simp [Instr.findKey, run_underlying hk, h2]
    simp [Builtin.delete_, hts, run_underlying hu, hg, hck, hfk, hset, h1]

theorem mhas_idx : ∀ {ks : List Int} {n : Int}, mhas ks n = true → midx ks n < ks.length ∧ ks.getD (midx ks n) 0 = n
  | [], n, h => by simp [mhas] at h
  | k :: ks, n, h => by
    simp only [mhas] at h
    cases hb : (k == n) with
    | true => simp only [midx, hb, cond_true]; exact ⟨by simp, by simpa using hb⟩
    | false =>
      rw [hb] at h
      obtain ⟨h1, h2⟩ := mhas_idx h
      simp only [midx, hb, cond_false]
      exact ⟨by simp; exact h1, by simpa using h2⟩

/-- The columns of a map behind a store. -/
def PutOf (ks : List Int) (n : Int) (col col' : Col) (a : A) : Prop :=
  col'.len = (mputK ks n).length ∧ (mhas ks n = true → ∀ i, i < ks.length → col'.at i = if i = midx ks n then a else col.at i) ∧
  (mhas ks n = false → (∀ i, i < ks.length → col'.at i = col.at i) ∧ col'.at ks.length = a)
theorem PutOf.int {ks : List Int} {n : Int} {k : IntKind} {l : List Int} {z : Int} (hl : l.length = ks.length) : PutOf ks n (.int k l) (.int k (mputV ks l n z)) (.raw (.int k z)) := by
  refine ⟨?_, fun h i hi => ?_, fun h => ⟨fun i hi => ?_, ?_⟩⟩
  · simp only [Col.len, mputV, mputK]; cases mhas ks n <;> simp [hl]
  · simp only [mputV, h, cond_true, Col.at, List.getD_eq_getElem?_getD, List.getElem?_set]
    by_cases e : midx ks n = i
    · subst e; simp [hl, hi]
    · simp [e, Ne.symm e]
  · simp only [mputV, h, cond_false, Col.at, List.getD_eq_getElem?_getD]
    rw [List.getElem?_append_left (by omega)]
  · simp only [mputV, h, cond_false, Col.at, List.getD_eq_getElem?_getD]
    rw [List.getElem?_append_right (by omega)]; simp [hl]
theorem PutOf.bool {ks : List Int} {n : Int} {l : List Bool} {z : Bool} (hl : l.length = ks.length) : PutOf ks n (.bool l) (.bool (mputV ks l n z)) (.raw (.bool z)) := by
  refine ⟨?_, fun h i hi => ?_, fun h => ⟨fun i hi => ?_, ?_⟩⟩
  · simp only [Col.len, mputV, mputK]; cases mhas ks n <;> simp [hl]
  · simp only [mputV, h, cond_true, Col.at, List.getD_eq_getElem?_getD, List.getElem?_set]
    by_cases e : midx ks n = i
    · subst e; simp [hl, hi]
    · simp [e, Ne.symm e]
  · simp only [mputV, h, cond_false, Col.at, List.getD_eq_getElem?_getD]
    rw [List.getElem?_append_left (by omega)]
  · simp only [mputV, h, cond_false, Col.at, List.getD_eq_getElem?_getD]
    rw [List.getElem?_append_right (by omega)]; simp [hl]

theorem map_put_ok {tl : Tab} (hr : HRel E w0 ρ H w) {id : Nat} {kk : IntKind} {n : Int} {ks : List Int} {col col' : Col} {a : A} {val : Value} {t kt et : TypeId} {m : Value}
    (hid : H[id]? = some (.map kk ks col)) (hu : P.underlying t = some (.map kt et)) (hk : P.underlying kt = some (.int kk)) (hm : VRel ρ H (.at (.map id)) m)
    (ha : ∀ ρ' H', ARel ρ' H' a val) (hput : PutOf ks n col col' a) :
    ∃ w', (Instr.mapUpdate t m (.int kk n) val).run P w = .ok () w' ∧ Ext ρ H ρ (H.set id (.map kk (mputK ks n) col')) ∧ HRel E w0 ρ (H.set id (.map kk (mputK ks n) col')) w' := by
  obtain ⟨p, hp, h1, h2, es, clock, h3, h4, h5, h6⟩ := hr.at hid
  have hm' : m = .map (some p.blk) := by
    rcases hm with hm | ⟨q, hq, hm⟩
    · rw [Gone, hid] at hm; cases hm
    · rw [hp] at hq; cases hq; exact hm
  subst hm'
  have hlt : p.blk < w.heap.size := (Array.getElem?_eq_some_iff.1 h3).1
  have hx : Ext ρ H ρ (H.set id (.map kk (mputK ks n) col')) := Ext.set hid rfl
  refine ⟨_, update_run hu hk h3 h4 (fun i e he => (h5 i e he).1), hx, hr.set hp hid rfl rfl h1 rfl rfl rfl (by simp) (fun k hk' => by simp [Array.getElem?_setIfInBounds, Ne.symm hk']) ⟨h1, hput.1, ?_⟩⟩
  cases hh : mhas ks n with
  | true =>
    obtain ⟨i1, i2⟩ := mhas_idx hh
    refine ⟨_, clock, by simpa [hh] using heap_set_obj w hlt, by simp [mputK, hh, h4], fun i e he => ?_, fun i j e f he hf hb => ?_⟩
    · have hi : i < es.size := by simpa using (Array.getElem?_eq_some_iff.1 he).1
      rw [Array.getElem?_modify] at he
      simp only [Array.getElem?_eq_getElem hi] at he
      obtain ⟨a1, a2, a3⟩ := h5 i _ (Array.getElem?_eq_getElem hi)
      rw [hput.2.1 hh i (by omega)]
      have hx2 := hx
      simp only [mputK, hh, cond_true] at hx2 ⊢
      by_cases e' : midx ks n = i
      · rw [if_pos e'] at he
        simp only [Option.map_some, Option.some.injEq] at he
        subst he
        subst e'
        refine ⟨by rw [i2], ?_, a3⟩
        rw [if_pos rfl]; exact ha _ _
      · rw [if_neg e'] at he
        simp only [Option.some.injEq] at he
        subst he
        rw [if_neg (Ne.symm e')]
        exact ⟨a1, a2.ext hx2, a3⟩
    · have hi : i < es.size := by simpa using (Array.getElem?_eq_some_iff.1 he).1
      have hj : j < es.size := by simpa using (Array.getElem?_eq_some_iff.1 hf).1
      rw [Array.getElem?_modify] at he hf
      simp only [Array.getElem?_eq_getElem hi] at he
      simp only [Array.getElem?_eq_getElem hj] at hf
      have be : e.born = es[i].born := by
        split at he
        · simp only [Option.map_some, Option.some.injEq] at he; subst he; rfl
        · simp only [Option.some.injEq] at he; subst he; rfl
      have bf : f.born = es[j].born := by
        split at hf
        · simp only [Option.map_some, Option.some.injEq] at hf; subst hf; rfl
        · simp only [Option.some.injEq] at hf; subst hf; rfl
      exact h6 i j _ _ (Array.getElem?_eq_getElem hi) (Array.getElem?_eq_getElem hj) (by rw [← be, ← bf, hb])
  | false =>
    obtain ⟨p1, p2⟩ := hput.2.2 hh
    refine ⟨_, clock + 1, by simpa [hh] using heap_set_obj w hlt, by simp [mputK, hh, h4], fun i e he => ?_, fun i j e f he hf hb => ?_⟩
    · rw [Array.getElem?_push] at he
      have hx2 := hx
      simp only [mputK, hh, cond_false] at hx2 ⊢
      split at he
      · rename_i hi
        subst hi
        simp only [Option.some.injEq] at he
        subst he
        refine ⟨by simp [List.getD_eq_getElem?_getD, h4], ?_, by simp⟩
        rw [h4, p2]; exact ha _ _
      · obtain ⟨a1, a2, a3⟩ := h5 i e he
        have hi : i < es.size := (Array.getElem?_eq_some_iff.1 he).1
        refine ⟨?_, ?_, by omega⟩
        · rw [a1]; congr 1
          rw [List.getD_eq_getElem?_getD, List.getD_eq_getElem?_getD, List.getElem?_append_left (by omega)]
        · rw [p1 i (by omega)]; exact a2.ext hx2
    · rw [Array.getElem?_push] at he hf
      split at he <;> split at hf
      · omega
      · simp only [Option.some.injEq] at he
        subst he
        have := (h5 j f hf).2.2
        simp at hb; omega
      · simp only [Option.some.injEq] at hf
        subst hf
        have := (h5 i e he).2.2
        simp at hb; omega
      · exact h6 i j e f he hf hb

theorem eMapUpdate_ok {tl : Tab} (htl : TabOk P tl) (hr : HRel E w0 ρ H w) {t : TypeId} {m k x : V} {a b c : Value} {H' : Heap} (h : eMapUpdate H tl t m k x = some H') (hm : VRel ρ H m a) (hk : VRel ρ H k b) (hx : VRel ρ H x c) :
    ∃ w', (Instr.mapUpdate t a b c).run P w = .ok () w' ∧ Ext ρ H ρ H' ∧ HRel E w0 ρ H' w' := by
  unfold eMapUpdate at h
  split at h
  · rename_i kt et id kk n y hti
    have hu : P.underlying t = some (.map kt et) := kd_ok htl hti
    simp only [VRel, ARel] at hk hx
    subst hk hx
    split at h
    · rename_i k1 k3 ks k4 l k5 z hkt hid
      cases hb : (decide (k1 = kk) && decide (k3 = kk) && decide (k4 = k5)) with
      | false => rw [hb] at h; cases h
      | true =>
        rw [hb] at h
        simp only [Bool.and_eq_true, decide_eq_true_eq] at hb
        obtain ⟨⟨e1, e2⟩, e3⟩ := hb
        subst e1 e2 e3
        cases h
        obtain ⟨p, hp, h1, h2, _⟩ := hr.at hid
        exact map_put_ok (tl := tl) (a := .raw (.int k4 z)) hr hid hu (kd_ok htl hkt) hm (fun _ _ => rfl) (PutOf.int h2)
    · rename_i k1 k3 ks l z hkt hid
      cases hb : (decide (k1 = kk) && decide (k3 = kk)) with
      | false => rw [hb] at h; cases h
      | true =>
        rw [hb] at h
        simp only [Bool.and_eq_true, decide_eq_true_eq] at hb
        obtain ⟨e1, e2⟩ := hb
        subst e1 e2
        cases h
        obtain ⟨p, hp, h1, h2, _⟩ := hr.at hid
        exact map_put_ok (tl := tl) (a := .raw (.bool z)) hr hid hu (kd_ok htl hkt) hm (fun _ _ => rfl) (PutOf.bool h2)
    · cases h
  · cases h

theorem map_del_ok {tl : Tab} (hr : HRel E w0 ρ H w) {id : Nat} {kk : IntKind} {n : Int} {ks : List Int} {col col' : Col} {t kt et ty : TypeId} {m : Value}
    (hid : H[id]? = some (.map kk ks col)) (hu : P.underlying t = some (.map kt et)) (hk : P.underlying kt = some (.int kk)) (hm : VRel ρ H (.at (.map id)) m)
    (hlen : col'.len = (mdelK ks n).length) (hdel : ∀ i, i < (mdelK ks n).length → col'.at i = if mhas ks n = true ∧ midx ks n ≤ i then col.at (i + 1) else col.at i) (ts : Array TypeId) (hts : ts[0]? = some t) :
    ∃ w', (Builtin.delete_ ts ty #[m, .int kk n]).run P w = .ok (.tuple #[]) w' ∧ Ext ρ H ρ (H.set id (.map kk (mdelK ks n) col')) ∧ HRel E w0 ρ (H.set id (.map kk (mdelK ks n) col')) w' := by
  obtain ⟨p, hp, h1, h2, es, clock, h3, h4, h5, h6⟩ := hr.at hid
  have hm' : m = .map (some p.blk) := by
    rcases hm with hm | ⟨q, hq, hm⟩
    · rw [Gone, hid] at hm; cases hm
    · rw [hp] at hq; cases hq; exact hm
  subst hm'
  have hlt : p.blk < w.heap.size := (Array.getElem?_eq_some_iff.1 h3).1
  have hx : Ext ρ H ρ (H.set id (.map kk (mdelK ks n) col')) := Ext.set hid rfl
  refine ⟨_, delete_run hts hu hk h3 h4 (fun i e he => (h5 i e he).1), hx, hr.set hp hid rfl rfl h1 rfl rfl rfl (by simp) (fun k hk' => by simp [Array.getElem?_setIfInBounds, Ne.symm hk']) ⟨h1, hlen, ?_⟩⟩
  cases hh : mhas ks n with
  | true =>
    obtain ⟨i1, i2⟩ := mhas_idx hh
    have hget : ∀ (i : Nat) (e : MapEntry), (es.eraseIdxIfInBounds (midx ks n))[i]? = some e → es[if midx ks n ≤ i then i + 1 else i]? = some e := by
      intro i e he
      have hml : midx ks n < es.size := by omega
      simp only [Array.eraseIdxIfInBounds, hml, dite_true] at he
      rw [Array.getElem?_eraseIdx] at he
      split
      · rename_i hle; rw [if_neg (by omega)] at he; exact he
      · rename_i hle; rw [if_pos (by omega)] at he; exact he
    have hsz : (es.eraseIdxIfInBounds (midx ks n)).size = (mdelK ks n).length := by
      have hml : midx ks n < es.size := by omega
      simp [Array.eraseIdxIfInBounds, hml, mdelK, hh, List.length_eraseIdx, i1, h4]
    refine ⟨_, clock, by simpa [hh] using heap_set_obj w hlt, hsz, fun i e he => ?_, fun i j e f he hf hb => ?_⟩
    · have hi : i < (mdelK ks n).length := by rw [← hsz]; exact (Array.getElem?_eq_some_iff.1 he).1
      have hg := hget i e he
      obtain ⟨a1, a2, a3⟩ := h5 _ e hg
      rw [hdel i hi]
      refine ⟨?_, ?_, a3⟩
      · rw [a1]
        congr 1
        simp only [mdelK, hh, cond_true, List.getD_eq_getElem?_getD, List.getElem?_eraseIdx]
        split <;> split <;> first | rfl | omega
      · simp only [hh, true_and]
        split
        · rename_i hle; rw [if_pos hle] at a2; exact a2.ext hx
        · rename_i hle; rw [if_neg hle] at a2; exact a2.ext hx
    · have := h6 _ _ e f (hget i e he) (hget j f hf) hb
      split at this <;> split at this <;> omega
  | false =>
    have hk' : mdelK ks n = ks := by simp [mdelK, hh]
    rw [hk'] at hdel ⊢
    refine ⟨_, clock, by simpa [hh] using heap_set_obj w hlt, h4, fun i e he => ?_, h6⟩
    have hi : i < ks.length := by rw [← h4]; exact (Array.getElem?_eq_some_iff.1 he).1
    obtain ⟨a1, a2, a3⟩ := h5 i e he
    rw [hdel i hi]
    simp only [hh, Bool.false_eq_true, false_and, if_false]
    exact ⟨a1, a2.ext (by rw [hk'] at hx; exact hx), a3⟩

theorem eDelete_ok {tl : Tab} (htl : TabOk P tl) (hr : HRel E w0 ρ H w) {t ty : TypeId} {m k : V} {a b : Value} {H' : Heap} (h : eDelete H tl t m k = some H') (hm : VRel ρ H m a) (hk : VRel ρ H k b) (ts : Array TypeId) (hts : ts[0]? = some t) :
    ∃ w', (Builtin.delete_ ts ty #[a, b]).run P w = .ok (.tuple #[]) w' ∧ Ext ρ H ρ H' ∧ HRel E w0 ρ H' w' := by
  unfold eDelete at h
  split at h
  · rename_i kt et id kk n hti
    have hu : P.underlying t = some (.map kt et) := kd_ok htl hti
    simp only [VRel, ARel] at hk
    subst hk
    split at h
    · rename_i k1 k3 ks k4 l hkt hid
      cases hb : (decide (k1 = kk) && decide (k3 = kk)) with
      | false => rw [hb] at h; cases h
      | true =>
        rw [hb] at h
        simp only [Bool.and_eq_true, decide_eq_true_eq] at hb
        obtain ⟨e1, e2⟩ := hb
        subst e1 e2
        cases h
        obtain ⟨p, hp, h1, h2, _⟩ := hr.at hid
        simp only [Col.len] at h2
        refine map_del_ok (tl := tl) hr hid hu (kd_ok htl hkt) hm ?_ (fun i hi => ?_) ts hts
        · simp only [Col.len, mdelV, mdelK]; cases mhas ks n <;> simp [h2, List.length_eraseIdx]
        · simp only [Col.at, mdelV]
          cases hh : mhas ks n with
          | false => simp
          | true =>
            simp only [cond_true, List.getD_eq_getElem?_getD, List.getElem?_eraseIdx, true_and]
            by_cases hle : midx ks n ≤ i
            · rw [if_neg (by omega), if_pos hle]
            · rw [if_pos (by omega), if_neg hle]
    · rename_i k1 k3 ks l hkt hid
      cases hb : (decide (k1 = kk) && decide (k3 = kk)) with
      | false => rw [hb] at h; cases h
      | true =>
        rw [hb] at h
        simp only [Bool.and_eq_true, decide_eq_true_eq] at hb
        obtain ⟨e1, e2⟩ := hb
        subst e1 e2
        cases h
        obtain ⟨p, hp, h1, h2, _⟩ := hr.at hid
        simp only [Col.len] at h2
        refine map_del_ok (tl := tl) hr hid hu (kd_ok htl hkt) hm ?_ (fun i hi => ?_) ts hts
        · simp only [Col.len, mdelV, mdelK]; cases mhas ks n <;> simp [h2, List.length_eraseIdx]
        · simp only [Col.at, mdelV]
          cases hh : mhas ks n with
          | false => simp
          | true =>
            simp only [cond_true, List.getD_eq_getElem?_getD, List.getElem?_eraseIdx, true_and]
            by_cases hle : midx ks n ≤ i
            · rw [if_neg (by omega), if_pos hle]
            · rw [if_pos (by omega), if_neg hle]
    · cases h
  · cases h
end
end Go.Sx
