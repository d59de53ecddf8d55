/-
  The operations that make or write memory.
-/
import Derived.Test.YtbjpcbghchfifaaGreatDoorSxF
set_option linter.all false
namespace Go.Sx
open Go

/-- An atom that is one cell's value. -/
def okA (H : Heap) : A → Bool
  | .raw v => v.oneCell'
  | .ptr id _ => alive H id
  | .eptr id _ _ _ => alive H id
  | .sl id _ _ _ => alive H id
  | .map id => alive H id
  | .fn _ caps => caps.all fun c => alive H c.1
  | .junk => false
def asOf : V → Option (List A)
  | .at a => some [a]
  | .agg as => some as
  | .tup _ => none

section
variable {P : Program} {E : Nat → Prop} {w0 w : World} {ρ : List Pl} {H : Heap}

theorem okA_one {a : A} {u : Value} (h : okA H a = true) (ha : ARel ρ H a u) : u.oneCell' = true := by
  cases a with
  | raw v => simp only [ARel] at ha; subst ha; exact h
  | ptr id o => obtain ⟨p, _, rfl⟩ := ha.resolve_left (not_gone h); rfl
  | eptr id sz i f => obtain ⟨p, _, rfl⟩ := ha.resolve_left (not_gone h); rfl
  | sl id sz off len =>
    obtain ⟨p, _, _, _, _, hs⟩ := ha.resolve_left (not_gone h)
    rcases hs with ⟨_, a, rfl, _⟩ | ⟨_, _, rfl⟩ <;> rfl
  | map id => obtain ⟨p, _, rfl⟩ := ha.resolve_left (not_gone h); rfl
  | fn f caps =>
    have hn : ¬ ∃ c ∈ caps, Gone H c.1 := by
      rintro ⟨c, hc, hg⟩
      exact not_gone (List.all_eq_true.1 h c hc) hg
    obtain ⟨vs, rfl, _⟩ := ha.resolve_left hn
    rfl
  | junk => cases h
theorem cells_one {u : Value} (h : u.oneCell' = true) : u.cells = #[u] := by cases u <;> first | rfl | cases h

theorem asOf_rel {x : V} {as : List A} {u : Value} (h : asOf x = some as) (hok : as.all (okA H) = true) (hx : VRel ρ H x u) : AsRel ρ H as u.cells.toList ∧ ∀ v ∈ u.cells.toList, v.oneCell' = true := by
  cases x with
  | «at» a =>
    simp only [asOf, Option.some.injEq] at h
    subst h
    simp only [List.all_cons, List.all_nil, Bool.and_true] at hok
    have h1 := okA_one hok hx
    rw [cells_one h1]
    refine ⟨⟨rfl, fun j a' v ha hv => ?_⟩, by simpa using h1⟩
    match j with
    | 0 => simp at ha hv; subst ha hv; exact hx
    | j + 1 => simp at ha
  | agg as' =>
    simp only [asOf, Option.some.injEq] at h
    subst h
    obtain ⟨vs, rfl, hv⟩ := hx
    refine ⟨by simpa [Value.cells] using hv, fun v hm => ?_⟩
    simp only [Value.cells] at hm
    obtain ⟨j, hj, rfl⟩ := List.getElem_of_mem hm
    have hj' : j < as'.length := by rw [← hv.1]; exact hj
    exact okA_one (List.all_eq_true.1 hok _ (List.getElem_mem hj')) (hv.2 j _ _ (List.getElem?_eq_getElem hj') (List.getElem?_eq_getElem hj))
  | tup xs => cases h

def EOk (P : Program) (E : Nat → Prop) (w0 w : World) (ρ : List Pl) (H : Heap) (s : Sem Value) (v : V) (H' : Heap) : Prop :=
  ∃ u w' ρ', s.run P w = .ok u w' ∧ Ext ρ H ρ' H' ∧ HRel E w0 ρ' H' w' ∧ VRel ρ' H' v u

theorem push_cells (hr : HRel E w0 ρ H w) {t : TypeId} {as : List A} {c : Array Value} (ha : AsRel ρ H as c.toList) :
    ∃ ρ', Ext ρ H ρ' (H ++ [.cells t as]) ∧ HRel E w0 ρ' (H ++ [.cells t as]) (w.alloc (.cells c t)) ∧ VRel ρ' (H ++ [.cells t as]) (.at (.ptr H.length 0)) (.pointer (some ⟨w.heap.size, 0, none⟩)) := by
  have hx := Ext.push hr.len ⟨w.heap.size, 0, 0, true⟩ (.cells t as)
  refine ⟨_, hx, hr.push (pl := ⟨w.heap.size, 0, 0, true⟩) rfl rfl rfl (by simp) (fun k hk => ?_) (fun _ => Nat.le_refl _) ⟨rfl, rfl, c, heap_alloc_new w _, ha.ext hx⟩, .inr ⟨⟨w.heap.size, 0, 0, true⟩, by rw [← hr.len]; simp, rfl⟩⟩
  exact heap_alloc_old w _ k hk

/-- alloc -/
def eAlloc (H : Heap) (tl : Tab) (t : TypeId) : Option (V × Heap) :=
  match lk tl t with
  | some ti => some (.at (.ptr H.length 0), H ++ [.cells t (ti.zero.map A.raw)])
  | none => none
theorem eAlloc_ok {tl : Tab} (htl : TabOk P tl) (hr : HRel E w0 ρ H w) {t : TypeId} {v : V} {H' : Heap} (h : eAlloc H tl t = some (v, H')) : EOk P E w0 w ρ H (Instr.alloc t true (.tuple #[])) v H' := by
  unfold eAlloc at h
  split at h
  · rename_i ti hti
    cases h
    obtain ⟨z, hz, _, hrun⟩ := (htl t ti hti).zero_run
    have ha : AsRel ρ H (ti.zero.map A.raw) z.cells.toList := by
      rw [hz]
      refine ⟨by simp, fun j a v ha hv => ?_⟩
      simp only [List.getElem?_map, hv, Option.map_some, Option.some.injEq] at ha
      subst ha; rfl
    obtain ⟨ρ', h1, h2, h3⟩ := push_cells hr (t := t) ha
    exact ⟨_, _, ρ', by simp [Instr.alloc, hrun, newVar, newRow], h1, h2, h3⟩
  · cases h

/-- box -/
def eBox (H : Heap) (t : TypeId) (x : V) : Option (V × Heap) :=
  match asOf x with
  | some as => bif as.all (okA H) then some (.at (.ptr H.length 0), H ++ [.cells t as]) else none
  | none => none
theorem eBox_ok (hr : HRel E w0 ρ H w) {t : TypeId} {x v : V} {u : Value} {H' : Heap} (h : eBox H t x = some (v, H')) (hx : VRel ρ H x u) : EOk P E w0 w ρ H (Instr.box t u) v H' := by
  unfold eBox at h
  split at h
  · rename_i as has
    cases hok : as.all (okA H) with
    | false => rw [hok] at h; cases h
    | true =>
      rw [hok] at h
      cases h
      obtain ⟨ha, _⟩ := asOf_rel has hok hx
      obtain ⟨ρ', h1, h2, h3⟩ := push_cells hr (t := t) ha
      exact ⟨_, _, ρ', by simp [Instr.box, newVar, newRow], h1, h2, h3⟩
  · cases h

/-- store through a pointer to an object -/
def colSet : Col → Nat → A → Option Col
  | .int k l, i, .raw (.int k' n) => bif decide (k = k') then some (.int k (l.set i n)) else none
  | .bool l, i, .raw (.bool b) => some (.bool (l.set i b))
  | .str l, i, .raw (.string s) => some (.str (l.set i s))
  | _, _, _ => none
def colsSet : List Col → Nat → List A → Option (List Col)
  | c :: cs, i, a :: as => match colSet c i a, colsSet cs i as with | some c', some cs' => some (c' :: cs') | _, _ => none
  | cs, _, [] => some cs
  | [], _, _ :: _ => none
def eStore (H : Heap) (tl : Tab) (t : TypeId) (p x : V) : Option (Heap × Bool) :=
  match lk tl t, p, asOf x with
  | some ti, .at (.ptr id off), some as =>
    match H[id]? with
    | some (.cells tt cs) =>
      bif as.all (okA H) && Nat.beq as.length ti.size && Nat.ble (off + as.length) cs.length then
        some (H.set id (.cells tt (cs.take off ++ as ++ cs.drop (off + as.length))), true)
      else none
    | _ => none
  | some ti, .at (.eptr id sz i f), some as =>
    match H[id]? with
    | some (.row e sz' n cols) =>
      bif Nat.beq as.length ti.size && Nat.beq sz sz' && Nat.ble (f + as.length) cols.length then
        match colsSet (cols.drop f) i.toNat as with
        | some cs' => some (H.set id (.row e sz' n (cols.take f ++ cs')), decide (0 ≤ i ∧ i < n))
        | none => none
      else none
    | _ => none
  | _, _, _ => none

theorem storeVar_run {t : TypeId} {ti : TI} (ht : TiOk P t ti) {g o : Nat} {tt : TypeId} {cur : Array Value} {u : Value} (hg : w.heap[g]? = some (.cells cur tt (0, 0))) (hs : u.cells.size = ti.size) (hl : o + u.cells.size ≤ cur.size) (h1 : ∀ v ∈ u.cells.toList, v.oneCell' = true) :
    (Instr.storeAt t (.pointer (some ⟨g, o, none⟩)) u).run P w = .ok () (w.setRow g (cur.toList.take o ++ u.cells.toList ++ cur.toList.drop (o + u.cells.size)).toArray) := by
  have := run_storeCells_at P g o tt u.cells.toList 0 cur w hg (by simpa using hl) h1
  simp only [Nat.add_zero, Array.length_toList] at this
  simp [Instr.storeAt, Instr.sureAddr, storeVar, ht.size_run, hs, this]

theorem AsRel.splice {as bs : List A} {vs us : List Value} {o : Nat} (h : AsRel ρ H as vs) (hb : AsRel ρ H bs us) (ho : o + bs.length ≤ as.length) : AsRel ρ H (as.take o ++ bs ++ as.drop (o + bs.length)) (vs.take o ++ us ++ vs.drop (o + us.length)) := by
  have e1 := h.1
  have e2 := hb.1
  refine ⟨by simp; omega, fun j a v ha hv => ?_⟩
  rcases Nat.lt_or_ge j o with hj | hj
  · rw [List.append_assoc, List.getElem?_append_left (by simp; omega)] at ha hv
    simp only [List.getElem?_take, hj, if_true] at ha hv
    exact h.2 j a v ha hv
  · rcases Nat.lt_or_ge j (o + bs.length) with hj2 | hj2
    · rw [List.append_assoc, List.getElem?_append_right (by simp; omega), List.getElem?_append_left (by simp; omega)] at ha hv
      have hta : (as.take o).length = o := by simp; omega
      have htv : (vs.take o).length = o := by simp; omega
      rw [hta] at ha; rw [htv] at hv
      exact hb.2 (j - o) a v ha hv
    · rw [List.getElem?_append_right (by simp; omega)] at ha hv
      have hta : (as.take o ++ bs).length = o + bs.length := by simp; omega
      have htv : (vs.take o ++ us).length = o + us.length := by simp; omega
      rw [hta, List.getElem?_drop] at ha
      rw [htv, List.getElem?_drop, e2] at hv
      have : o + bs.length + (j - (o + bs.length)) = j := by omega
      rw [this] at ha hv
      exact h.2 j a v ha hv

theorem colSet_ok {c c' : Col} {i : Nat} {a : A} (h : colSet c i a = some c') : c'.len = c.len ∧ ∀ j, j < c.len → c'.at j = if j = i then a else c.at j := by
  unfold colSet at h
  split at h
  · rename_i k l k' n
    by_cases hk : k = k'
    · subst hk
      simp only [decide_true, cond_true, Option.some.injEq] at h
      subst h
      refine ⟨by simp [Col.len], fun j hj => ?_⟩
      simp only [Col.len] at hj
      simp only [Col.at, List.getD_eq_getElem?_getD, List.getElem?_set]
      by_cases e : i = j
      · subst e; simp [hj]
      · simp [e, Ne.symm e]
    · simp [hk] at h
  · rename_i l b
    cases h
    refine ⟨by simp [Col.len], fun j hj => ?_⟩
    simp only [Col.len] at hj
    simp only [Col.at, List.getD_eq_getElem?_getD, List.getElem?_set]
    by_cases e : i = j
    · subst e; simp [hj]
    · simp [e, Ne.symm e]
  · rename_i l b
    cases h
    refine ⟨by simp [Col.len], fun j hj => ?_⟩
    simp only [Col.len] at hj
    simp only [Col.at, List.getD_eq_getElem?_getD, List.getElem?_set]
    by_cases e : i = j
    · subst e; simp [hj]
    · simp [e, Ne.symm e]
  · cases h

theorem colsSet_ok : ∀ {cs cs' : List Col} {i : Nat} {as : List A}, colsSet cs i as = some cs' → cs'.length = cs.length ∧ as.length ≤ cs.length ∧
    ∀ (f : Nat) (c' : Col), cs'[f]? = some c' → ∃ c, cs[f]? = some c ∧ c'.len = c.len ∧ ∀ j, j < c.len → c'.at j = if j = i then (match as[f]? with | some a => a | none => c.at j) else c.at j
  | c :: cs, cs', i, a :: as, h => by
    simp only [colsSet] at h
    split at h
    · rename_i c1 cs1 h1 h2
      cases h
      obtain ⟨l1, l2, l3⟩ := colsSet_ok h2
      obtain ⟨k1, k2⟩ := colSet_ok h1
      refine ⟨by simp [l1], by simp; exact l2, fun f c' hc => ?_⟩
      match f with
      | 0 => simp at hc; subst hc; exact ⟨c, rfl, k1, fun j hj => by simpa using k2 j hj⟩
      | f + 1 => simp at hc; obtain ⟨c0, h0, h3, h4⟩ := l3 f c' hc; exact ⟨c0, by simpa using h0, h3, fun j hj => by simpa using h4 j hj⟩
    · cases h
  | [], cs', i, [], h => by simp only [colsSet, Option.some.injEq] at h; subst h; exact ⟨rfl, by simp, fun f c' hc => by simp at hc⟩
  | c :: cs, cs', i, [], h => by simp only [colsSet, Option.some.injEq] at h; subst h; exact ⟨rfl, by simp, fun f c' hc => ⟨c', hc, rfl, fun j _ => by simp⟩⟩
  | [], cs', i, a :: as, h => by simp [colsSet] at h

theorem colsSet_raw : ∀ {cs cs' : List Col} {i : Nat} {as : List A}, colsSet cs i as = some cs' → as.all (okA H) = true
  | c :: cs, cs', i, a :: as, h => by
    simp only [colsSet] at h
    split at h
    · rename_i c1 cs1 h1 h2
      have h3 : okA H a = true := by
        unfold colSet at h1
        split at h1 <;> first | (cases h1; done) | rfl
      simp [h3]
      simpa using colsSet_raw h2
    · cases h
  | [], cs', i, [], h => rfl
  | c :: cs, cs', i, [], h => rfl
  | [], cs', i, a :: as, h => by simp [colsSet] at h

theorem eStore_ok {tl : Tab} (htl : TabOk P tl) (hr : HRel E w0 ρ H w) {t : TypeId} {p x : V} {q u : Value} {H' : Heap} {c : Bool} (h : eStore H tl t p x = some (H', c)) (hc : c = true) (hp : VRel ρ H p q) (hx : VRel ρ H x u) :
    ∃ w', (Instr.storeAt t q u).run P w = .ok () w' ∧ Ext ρ H ρ H' ∧ HRel E w0 ρ H' w' := by
  unfold eStore at h
  split at h
  · rename_i ti id off as hti has
    have ht := htl t ti hti
    split at h
    · rename_i tt cs hid
      cases hb : (as.all (okA H) && Nat.beq as.length ti.size && Nat.ble (off + as.length) cs.length) with
      | false => rw [hb] at h; cases h
      | true =>
        rw [hb] at h
        cases h
        simp only [Bool.and_eq_true] at hb
        obtain ⟨⟨hok, hsz⟩, hle⟩ := hb
        have hsz := Nat.eq_of_beq_eq_true hsz
        have hle := Nat.le_of_ble_eq_true hle
        obtain ⟨pl, hpl, h1, h2, cur, h3, h4⟩ := hr.at hid
        have hq : q = .pointer (some (pl.addr off)) := by
          rcases hp with hp | ⟨pl', hpl', hp⟩
          · rw [Gone, hid] at hp; cases hp
          · rw [hpl] at hpl'; cases hpl'; exact hp
        subst hq
        obtain ⟨ha, hone⟩ := asOf_rel has hok hx
        have hl : u.cells.size = as.length := by simpa using ha.1
        have h4l := h4.1
        simp at h4l
        have hst := storeVar_run (w := w) ht (g := pl.blk) (o := off) h3 (by rw [hl, hsz]) (by omega) hone
        have hx' : Ext ρ H ρ (H.set id (.cells tt (cs.take off ++ as ++ cs.drop (off + as.length)))) := Ext.set hid rfl
        refine ⟨_, by rw [show pl.addr off = ⟨pl.blk, off, none⟩ by simp [Pl.addr, h2]]; exact hst, hx', ?_⟩
        refine hr.set hpl hid rfl rfl h1 rfl rfl rfl (by simp) (fun k hk => setRow_other w _ k _ hk) ⟨h1, h2, _, setRow_heap w _ cur _ tt (0, 0) h3, ?_⟩
        have := (h4.splice ha hle).ext hx'
        simpa using this
    · cases h
  · rename_i ti id sz i f as hti has
    have ht := htl t ti hti
    split at h
    · rename_i e sz' n cols hid
      cases hb : (Nat.beq as.length ti.size && Nat.beq sz sz' && Nat.ble (f + as.length) cols.length) with
      | false => rw [hb] at h; cases h
      | true =>
        rw [hb] at h
        simp only [cond_true] at h
        simp only [Bool.and_eq_true] at hb
        have hsz := Nat.eq_of_beq_eq_true hb.1.1
        have e' := Nat.eq_of_beq_eq_true hb.1.2
        have hfle := Nat.le_of_ble_eq_true hb.2
        subst e'
        split at h
        · rename_i cs' hcs
          cases h
          obtain ⟨pl, hpl, hok, hreal⟩ := hr.at hid
          have hq : q = .pointer (some (pl.addr (i.toNat * sz + f))) := by
            rcases hp with hp | ⟨pl', hpl', hp⟩
            · rw [Gone, hid] at hp; cases hp
            · rw [hpl] at hpl'; cases hpl'; exact hp
          subst hq
          obtain ⟨hn, hcl, hcn, hs0, hnc, hcm, hv⟩ := hok
          have hc := of_decide_eq_true hc
          have hin : i.toNat < n.toNat := by omega
          have hrl : pl.real = true := by
            cases hpr : pl.real with
            | true => rfl
            | false => have := hv hpr; omega
          obtain ⟨cur, h3, hfit, h4⟩ := hreal hrl
          obtain ⟨k1, k2, k3⟩ := colsSet_ok hcs
          obtain ⟨ha, hone⟩ := asOf_rel has (colsSet_raw hcs) hx
          have hl : u.cells.size = as.length := by simpa using ha.1
          have hfl : f + as.length ≤ sz := by omega
          have hmul : i.toNat * sz + sz ≤ pl.cap * sz := by
            have : (i.toNat + 1) * sz ≤ pl.cap * sz := Nat.mul_le_mul_right _ (by omega)
            rwa [Nat.add_mul, Nat.one_mul] at this
          have hst := storeVar_run (w := w) ht (g := pl.blk) (o := pl.off + (i.toNat * sz + f)) h3 (by rw [hl, hsz]) (by omega) hone
          have hx' : Ext ρ H ρ (H.set id (.row e sz n (cols.take f ++ cs'))) := Ext.set hid rfl
          have hlen' : (cols.take f ++ cs').length = sz := by simp [k1]; simp at k2; omega
          have hget : ∀ (g : Nat) (c' : Col), (cols.take f ++ cs')[g]? = some c' → ∃ c, cols[g]? = some c ∧ c'.len = c.len ∧ ∀ j, j < c.len → c'.at j = if j = i.toNat ∧ f ≤ g ∧ g < f + as.length then (as[g - f]?).getD .junk else c.at j := by
            intro g c' hg
            rcases Nat.lt_or_ge g f with hgf | hgf
            · rw [List.getElem?_append_left (by simp; omega)] at hg
              simp only [List.getElem?_take, hgf, if_true] at hg
              exact ⟨c', hg, rfl, fun j _ => by rw [if_neg (by omega)]⟩
            · rw [List.getElem?_append_right (by simp; omega)] at hg
              have hta : (cols.take f).length = f := by simp; omega
              rw [hta] at hg
              obtain ⟨c0, h0, h5, h6⟩ := k3 _ _ hg
              rw [List.getElem?_drop, show f + (g - f) = g by omega] at h0
              refine ⟨c0, h0, h5, fun j hj => ?_⟩
              rw [h6 j hj]
              by_cases hji : j = i.toNat
              · rw [if_pos hji]
                rcases Nat.lt_or_ge (g - f) as.length with hlt | hge
                · rw [if_pos ⟨hji, hgf, by omega⟩, List.getElem?_eq_getElem hlt]; rfl
                · rw [if_neg (by omega), List.getElem?_eq_none hge]
              · rw [if_neg hji, if_neg (by omega)]
          refine ⟨_, hst, hx', ?_⟩
          refine hr.set hpl hid rfl rfl hrl rfl rfl rfl (by simp) (fun k hk => setRow_other w _ k _ hk) ⟨⟨hn, ?_, hlen', hs0, hnc, hcm, hv⟩, fun _ => ⟨_, setRow_heap w _ cur _ e (0, 0) h3, ?_, ?_⟩⟩
          · intro c' hc'
            obtain ⟨g, hg, hge⟩ := List.getElem_of_mem hc'
            obtain ⟨c0, h0, h5, _⟩ := hget g c' (by rw [List.getElem?_eq_getElem hg, hge])
            rw [h5]
            exact hcl c0 (List.mem_of_getElem? h0)
          · simp; omega
          · intro j g c' hj hg
            obtain ⟨c0, h0, h5, h6⟩ := hget g c' hg
            have hgs : g < sz := by rw [← hlen']; exact (List.getElem?_eq_some_iff.1 hg).1
            have hc0 : c0.len = n.toNat := hcl c0 (List.mem_of_getElem? h0)
            rw [h6 j (by omega)]
            obtain ⟨y, hy, hya⟩ := h4 j g c0 hj h0
            have hO : pl.off + (i.toNat * sz + f) + u.cells.size ≤ cur.size := by omega
            have hsplice : ∀ k, ((cur.toList.take (pl.off + (i.toNat * sz + f)) ++ u.cells.toList ++ cur.toList.drop (pl.off + (i.toNat * sz + f) + u.cells.size)).toArray)[k]? =
                if pl.off + (i.toNat * sz + f) ≤ k ∧ k < pl.off + (i.toNat * sz + f) + u.cells.size then u.cells[k - (pl.off + (i.toNat * sz + f))]? else cur[k]? := by
              intro k
              simp only [List.getElem?_toArray]
              rcases Nat.lt_or_ge k (pl.off + (i.toNat * sz + f)) with hk | hk
              · rw [if_neg (by omega), List.append_assoc, List.getElem?_append_left (by simp; omega)]
                simp [List.getElem?_take, hk]
              · rcases Nat.lt_or_ge k (pl.off + (i.toNat * sz + f) + u.cells.size) with hk2 | hk2
                · rw [if_pos ⟨hk, hk2⟩, List.append_assoc, List.getElem?_append_right (by simp; omega), List.getElem?_append_left (by simp; omega)]
                  rw [show (cur.toList.take (pl.off + (i.toNat * sz + f))).length = pl.off + (i.toNat * sz + f) by simp; omega]
                  simp
                · rw [if_neg (by omega), List.getElem?_append_right (by simp; omega), List.getElem?_drop]
                  rw [show (cur.toList.take (pl.off + (i.toNat * sz + f)) ++ u.cells.toList).length = pl.off + (i.toNat * sz + f) + u.cells.size by simp; omega]
                  rw [show pl.off + (i.toNat * sz + f) + u.cells.size + (k - (pl.off + (i.toNat * sz + f) + u.cells.size)) = k by omega]
                  simp
            rw [hsplice]
            by_cases hcase : j = i.toNat ∧ f ≤ g ∧ g < f + as.length
            · obtain ⟨rfl, hfg, hga⟩ := hcase
              have hcond : pl.off + (i.toNat * sz + f) ≤ pl.off + i.toNat * sz + g ∧ pl.off + i.toNat * sz + g < pl.off + (i.toNat * sz + f) + u.cells.size := by omega
              rw [if_pos hcond, if_pos ⟨rfl, hfg, hga⟩]
              have hlt : g - f < as.length := by omega
              rw [List.getElem?_eq_getElem hlt, Option.getD_some]
              obtain ⟨z, hz, hza⟩ := (ha.ext hx').get (List.getElem?_eq_getElem hlt)
              refine ⟨z, ?_, hza⟩
              rw [show pl.off + i.toNat * sz + g - (pl.off + (i.toNat * sz + f)) = g - f by omega]
              simpa using hz
            · rw [if_neg hcase, if_neg ?_]
              · exact ⟨y, hy, hya.ext hx'⟩
              · intro ⟨hk1, hk2⟩
                apply hcase
                have hjj : j = i.toNat := by
                  rcases Nat.lt_trichotomy j i.toNat with hlt | heq | hgt
                  · have : (j + 1) * sz ≤ i.toNat * sz := Nat.mul_le_mul_right _ hlt
                    rw [Nat.add_mul] at this; omega
                  · exact heq
                  · have : (i.toNat + 1) * sz ≤ j * sz := Nat.mul_le_mul_right _ hgt
                    rw [Nat.add_mul] at this; omega
                subst hjj
                exact ⟨rfl, by omega, by omega⟩
        · cases h
    · cases h
  · cases h
end
end Go.Sx
