/-
  buildSlice, maps.
-/
import Derived.Test.YtbjpcbghchfifaaGreatDoorSxH
set_option linter.all false
namespace Go.Sx
open Go

/-- Explicit cells to columns. -/
def intsOf (k : IntKind) : List A → Option (List Int)
  | [] => some []
  | .raw (.int k' n) :: r => bif decide (k = k') then (match intsOf k r with | some l => some (n :: l) | none => none) else none
  | _ => none
def boolsOf : List A → Option (List Bool)
  | [] => some []
  | .raw (.bool b) :: r => match boolsOf r with | some l => some (b :: l) | none => none
  | _ => none
def strsOf : List A → Option (List ByteArray)
  | [] => some []
  | .raw (.string b) :: r => match strsOf r with | some l => some (b :: l) | none => none
  | _ => none
def colOf : List A → Option Col
  | .raw (.int k n) :: r => match intsOf k r with | some l => some (.int k (n :: l)) | none => none
  | .raw (.bool b) :: r => match boolsOf r with | some l => some (.bool (b :: l)) | none => none
  | .raw (.string b) :: r => match strsOf r with | some l => some (.str (b :: l)) | none => none
  | l => some (.ats l)
/-- The f-th cell of each part. -/
def nthCells : List (List A) → Nat → Option (List A)
  | [], _ => some []
  | as :: r, f => match as[f]?, nthCells r f with | some a, some l => some (a :: l) | _, _ => none
def colsOf (parts : List (List A)) : Nat → Nat → Option (List Col)
  | 0, _ => some []
  | n + 1, f => match nthCells parts f with
    | some l => match colOf l, colsOf parts n (f + 1) with | some c, some cs => some (c :: cs) | _, _ => none
    | none => none
def asOfs : List V → Option (List (List A))
  | [] => some []
  | x :: r => match asOf x, asOfs r with | some as, some l => some (as :: l) | _, _ => none
def inOrder {α : Type} : List (Nat × α) → Nat → Bool
  | [], _ => true
  | (i, _) :: r, k => Nat.beq i k && inOrder r (k + 1)

def eBuild (H : Heap) (tl : Tab) (t : TypeId) (len : Nat) (idx : List (Nat × V)) : Option (V × Heap) :=
  match kd tl t with
  | some (.sl e) =>
    match lk tl e, asOfs (idx.map (·.2)) with
    | some ti, some parts =>
      bif inOrder idx 0 && Nat.beq idx.length len && Nat.ble 1 ti.size && Nat.beq ti.zero.length ti.size && parts.all (fun as => Nat.beq as.length ti.size && as.all (okA H)) && Nat.ble (len * ti.size) 16777216 then
        match colsOf parts ti.size 0 with
        | some cols => some (.at (.sl H.length ti.size none (len : Int)), H ++ [.row e ti.size (len : Int) cols])
        | none => none
      else none
    | _, _ => none
  | _ => none

section
variable {P : Program} {E : Nat → Prop} {w0 w : World} {ρ : List Pl} {H : Heap}

theorem intsOf_at {k : IntKind} : ∀ {as : List A} {l : List Int}, intsOf k as = some l → l.length = as.length ∧ ∀ (i : Nat), i < as.length → as[i]? = some (.raw (.int k (l.getD i 0)))
  | [], l, h => by simp only [intsOf, Option.some.injEq] at h; subst h; exact ⟨rfl, fun i hi => by simp at hi⟩
  | a :: as, l, h => by
    unfold intsOf at h
    split at h
    · rename_i e; cases e
    · rename_i k' n r e
      cases e
      by_cases hk : k = k'
      · subst hk
        simp only [decide_true, cond_true] at h
        split at h
        · rename_i l' hl
          cases h
          obtain ⟨h1, h2⟩ := intsOf_at hl
          refine ⟨by simp [h1], fun i hi => ?_⟩
          match i with
          | 0 => rfl
          | i + 1 => simpa using h2 i (by simpa using hi)
        · cases h
      · simp [hk] at h
    · cases h
theorem boolsOf_at : ∀ {as : List A} {l : List Bool}, boolsOf as = some l → l.length = as.length ∧ ∀ (i : Nat), i < as.length → as[i]? = some (.raw (.bool (l.getD i false)))
  | [], l, h => by simp only [boolsOf, Option.some.injEq] at h; subst h; exact ⟨rfl, fun i hi => by simp at hi⟩
  | a :: as, l, h => by
    unfold boolsOf at h
    split at h
    · rename_i e; cases e
    · rename_i b r e
      cases e
      split at h
      · rename_i l' hl
        cases h
        obtain ⟨h1, h2⟩ := boolsOf_at hl
        refine ⟨by simp [h1], fun i hi => ?_⟩
        match i with
        | 0 => rfl
        | i + 1 => simpa using h2 i (by simpa using hi)
      · cases h
    · cases h
theorem strsOf_at : ∀ {as : List A} {l : List ByteArray}, strsOf as = some l → l.length = as.length ∧ ∀ (i : Nat), i < as.length → as[i]? = some (.raw (.string (l.getD i ByteArray.empty)))
  | [], l, h => by simp only [strsOf, Option.some.injEq] at h; subst h; exact ⟨rfl, fun i hi => by simp at hi⟩
  | a :: as, l, h => by
    unfold strsOf at h
    split at h
    · rename_i e; cases e
    · rename_i b r e
      cases e
      split at h
      · rename_i l' hl
        cases h
        obtain ⟨h1, h2⟩ := strsOf_at hl
        refine ⟨by simp [h1], fun i hi => ?_⟩
        match i with
        | 0 => rfl
        | i + 1 => simpa using h2 i (by simpa using hi)
      · cases h
    · cases h
theorem colOf_at {as : List A} {c : Col} (h : colOf as = some c) : c.len = as.length ∧ ∀ (i : Nat) (a : A), as[i]? = some a → c.at i = a := by
  unfold colOf at h
  split at h
  · rename_i k n r
    split at h
    · rename_i l hl
      cases h
      obtain ⟨h1, h2⟩ := intsOf_at hl
      refine ⟨by simp [Col.len, h1], fun i a ha => ?_⟩
      match i with
      | 0 => simp at ha; subst ha; rfl
      | i + 1 =>
        simp at ha
        have := h2 i (List.getElem?_eq_some_iff.1 ha).1
        rw [ha] at this; cases this; simp [Col.at]
    · cases h
  · rename_i b r
    split at h
    · rename_i l hl
      cases h
      obtain ⟨h1, h2⟩ := boolsOf_at hl
      refine ⟨by simp [Col.len, h1], fun i a ha => ?_⟩
      match i with
      | 0 => simp at ha; subst ha; rfl
      | i + 1 =>
        simp at ha
        have := h2 i (List.getElem?_eq_some_iff.1 ha).1
        rw [ha] at this; cases this; simp [Col.at]
    · cases h
  · rename_i b r
    split at h
    · rename_i l hl
      cases h
      obtain ⟨h1, h2⟩ := strsOf_at hl
      refine ⟨by simp [Col.len, h1], fun i a ha => ?_⟩
      match i with
      | 0 => simp at ha; subst ha; rfl
      | i + 1 =>
        simp at ha
        have := h2 i (List.getElem?_eq_some_iff.1 ha).1
        rw [ha] at this; cases this; simp [Col.at]
    · cases h
  · cases h
    exact ⟨rfl, fun i a ha => by simp [Col.at, List.getD_eq_getElem?_getD, ha]⟩
theorem nthCells_at : ∀ {parts : List (List A)} {f : Nat} {l : List A}, nthCells parts f = some l → l.length = parts.length ∧ ∀ (i : Nat) (as : List A), parts[i]? = some as → ∃ a, as[f]? = some a ∧ l[i]? = some a
  | [], f, l, h => by simp only [nthCells, Option.some.injEq] at h; subst h; exact ⟨rfl, fun i as ha => by simp at ha⟩
  | p :: r, f, l, h => by
    simp only [nthCells] at h
    split at h
    · rename_i a l' ha hl
      cases h
      obtain ⟨h1, h2⟩ := nthCells_at hl
      refine ⟨by simp [h1], fun i as has => ?_⟩
      match i with
      | 0 => simp at has; subst has; exact ⟨a, ha, rfl⟩
      | i + 1 => simp at has; obtain ⟨b, hb, hlb⟩ := h2 i as has; exact ⟨b, hb, by simpa using hlb⟩
    · cases h
theorem colsOf_at {parts : List (List A)} : ∀ {n f : Nat} {cs : List Col}, colsOf parts n f = some cs → cs.length = n ∧ ∀ (g : Nat) (c : Col), cs[g]? = some c → c.len = parts.length ∧ ∀ (i : Nat) (as : List A), parts[i]? = some as → as[f + g]? = some (c.at i)
  | 0, f, cs, h => by simp only [colsOf, Option.some.injEq] at h; subst h; exact ⟨rfl, fun g c hg => by simp at hg⟩
  | n + 1, f, cs, h => by
    simp only [colsOf] at h
    split at h
    · rename_i l hl
      split at h
      · rename_i c0 cs0 h1 h2
        cases h
        obtain ⟨a1, a2⟩ := colsOf_at h2
        obtain ⟨b1, b2⟩ := nthCells_at hl
        obtain ⟨d1, d2⟩ := colOf_at h1
        refine ⟨by simp [a1], fun g c hg => ?_⟩
        match g with
        | 0 =>
          simp at hg; subst hg
          refine ⟨by rw [d1, b1], fun i as has => ?_⟩
          obtain ⟨a, ha, hla⟩ := b2 i as has
          rw [d2 i a hla]; simpa using ha
        | g + 1 =>
          simp at hg
          obtain ⟨e1, e2⟩ := a2 g c hg
          refine ⟨e1, fun i as has => ?_⟩
          have := e2 i as has
          rwa [show f + (g + 1) = f + 1 + g by omega]
      · cases h
    · cases h

/-- The model's fill, over parts in order. -/
theorem foldl_set (v : List Value) : ∀ (k o : Nat) (cs : Array Value), o + k + v.length ≤ cs.size →
    ∀ r, (v.zipIdx k).foldl (fun (cs : Array Value) (x : Value × Nat) => cs.setIfInBounds (o + x.2) x.1) cs = r → r.size = cs.size ∧ ∀ j, r[j]? = if o + k ≤ j ∧ j < o + k + v.length then v[j - (o + k)]? else cs[j]? := by
  induction v with
  | nil => intro k o cs h r hr; simp at hr; subst hr; exact ⟨rfl, fun j => by rw [if_neg (by simp)]⟩
  | cons x v ih =>
    intro k o cs h r hr
    simp only [List.zipIdx_cons, List.foldl_cons] at hr
    simp only [List.length_cons] at h
    obtain ⟨h1, h2⟩ := ih (k + 1) o _ (by simp; omega) r hr
    refine ⟨by simpa using h1, fun j => ?_⟩
    rw [h2 j]
    simp only [List.length_cons]
    by_cases hj : j = o + k
    · subst hj
      rw [if_neg (by omega), if_pos (by omega)]
      simp [Array.getElem?_setIfInBounds, show o + k < cs.size by omega]
    · by_cases hin : o + k ≤ j ∧ j < o + k + (v.length + 1)
      · rw [if_pos (by omega), if_pos hin]
        rw [show j - (o + k) = (j - (o + (k + 1))) + 1 by omega]
        simp
      · rw [if_neg (by omega), if_neg hin]
        simp [Array.getElem?_setIfInBounds, Ne.symm hj]

theorem fill_order {size : Nat} (h0 : 0 < size) : ∀ (parts : List (Nat × Value)) (k : Nat) (cs : Array Value), inOrder parts k = true → (∀ x ∈ parts, x.2.cells.size = size) → (k + parts.length) * size ≤ cs.size →
    ∃ cs', Instr.fill (fun i => some (i * size, size)) cs parts = some cs' ∧ cs'.size = cs.size ∧ (∀ j, j < k * size → cs'[j]? = cs[j]?) ∧
      ∀ (i f : Nat) (x : Nat × Value), parts[i]? = some x → f < size → cs'[(k + i) * size + f]? = x.2.cells[f]?
  | [], k, cs, _, _, _ => ⟨cs, rfl, rfl, fun _ _ => rfl, fun i f x hx => by simp at hx⟩
  | (i, v) :: rest, k, cs, ho, hs, hl => by
    simp only [inOrder, Bool.and_eq_true] at ho
    have hi := Nat.eq_of_beq_eq_true ho.1
    subst hi
    have hv : v.cells.size = size := hs (i, v) (by simp)
    have hmul : (i + 1) * size = i * size + size := by rw [Nat.add_mul, Nat.one_mul]
    have hle : i * size + v.cells.size ≤ cs.size := by
      rw [hv]
      have : (i + 1) * size ≤ (i + (rest.length + 1)) * size := Nat.mul_le_mul_right _ (by omega)
      simp only [List.length_cons] at hl
      omega
    generalize hcs1 : v.cells.zipIdx.foldl (fun (cs : Array Value) (x : Value × Nat) => cs.setIfInBounds (i * size + x.2) x.1) cs = cs1
    have hcs1' : (v.cells.toList.zipIdx 0).foldl (fun (cs : Array Value) (x : Value × Nat) => cs.setIfInBounds (i * size + x.2) x.1) cs = cs1 := by
      rw [← hcs1, ← Array.foldl_toList]
      simp
    obtain ⟨g1, g2⟩ := foldl_set v.cells.toList 0 (i * size) cs (by simpa using hle) cs1 hcs1'
    obtain ⟨cs', h1, h2, h3, h4⟩ := fill_order h0 rest (i + 1) cs1 ho.2 (fun x hx => hs x (by simp [hx])) (by rw [g1]; simp only [List.length_cons] at hl; rwa [show i + 1 + rest.length = i + (rest.length + 1) by omega])
    refine ⟨cs', ?_, h2.trans g1, fun j hj => ?_, fun n f x hx hf => ?_⟩
    · simp only [Instr.fill]
      rw [if_neg (by rw [hv]; simp; omega)]
      exact (congrArg (fun z => Instr.fill (fun i => some (i * size, size)) z rest) hcs1).trans h1
    · rw [h3 j (by omega), g2 j, if_neg (by omega)]
    · match n with
      | 0 =>
        simp at hx; subst hx
        rw [Nat.add_zero, h3 _ (by omega), g2, if_pos (by simp [hv]; omega)]
        simp
      | n + 1 =>
        simp at hx
        rw [show i + (n + 1) = i + 1 + n by omega]
        exact h4 n f x hx hf

theorem asOfs_at : ∀ {xs : List V} {parts : List (List A)}, asOfs xs = some parts → parts.length = xs.length ∧ ∀ (i : Nat) (as : List A), parts[i]? = some as → ∃ x, xs[i]? = some x ∧ asOf x = some as
  | [], parts, h => by simp only [asOfs, Option.some.injEq] at h; subst h; exact ⟨rfl, fun i as ha => by simp at ha⟩
  | x :: xs, parts, h => by
    simp only [asOfs] at h
    split at h
    · rename_i as l h1 h2
      cases h
      obtain ⟨a1, a2⟩ := asOfs_at h2
      refine ⟨by simp [a1], fun i as' ha => ?_⟩
      match i with
      | 0 => simp at ha; subst ha; exact ⟨x, rfl, h1⟩
      | i + 1 => simp at ha; obtain ⟨y, hy, hy2⟩ := a2 i as' ha; exact ⟨y, by simpa using hy, hy2⟩
    · cases h

theorem VsRel.at_ : ∀ {xs : List V} {us : List Value}, VsRel ρ H xs us → ∀ (i : Nat) (x : V), xs[i]? = some x → ∃ u, us[i]? = some u ∧ VRel ρ H x u
  | _, _, .nil, i, x, h => by simp at h
  | _, _, .cons h hs, i, x, hx => by
    match i with
    | 0 => simp at hx; subst hx; exact ⟨_, rfl, h⟩
    | i + 1 => simp at hx; obtain ⟨u, hu, hr⟩ := hs.at_ i x hx; exact ⟨u, by simpa using hu, hr⟩
theorem VsRel.length : ∀ {xs : List V} {us : List Value}, VsRel ρ H xs us → us.length = xs.length
  | _, _, .nil => rfl
  | _, _, .cons h hs => by simp [hs.length]

theorem eBuild_ok {tl : Tab} (htl : TabOk P tl) (hr : HRel E w0 ρ H w) {t : TypeId} {len : Nat} {idx : List (Nat × V)} {us : List Value} {v : V} {H' : Heap} (h : eBuild H tl t len idx = some (v, H')) (hx : VsRel ρ H (idx.map (·.2)) us) :
    EOk P E w0 w ρ H (Instr.buildSlice t len ((idx.map (·.1)).zip us).toArray) v H' := by
  unfold eBuild at h
  split at h
  · rename_i e hk
    have hu : P.underlying t = some (.slice e) := kd_ok htl hk
    split at h
    · rename_i ti parts hti hparts
      cases hb : (inOrder idx 0 && Nat.beq idx.length len && Nat.ble 1 ti.size && Nat.beq ti.zero.length ti.size && parts.all (fun as => Nat.beq as.length ti.size && as.all (okA H)) && Nat.ble (len * ti.size) 16777216) with
      | false => rw [hb] at h; cases h
      | true =>
        rw [hb] at h
        simp only [cond_true] at h
        split at h
        · rename_i cols hcols
          cases h
          simp only [Bool.and_eq_true] at hb
          obtain ⟨⟨⟨⟨⟨b1, b2⟩, b3⟩, b4⟩, b5⟩, b6⟩ := hb
          have b2 := Nat.eq_of_beq_eq_true b2
          have b3 := Nat.le_of_ble_eq_true b3
          have b4 := Nat.eq_of_beq_eq_true b4
          have b6 := Nat.le_of_ble_eq_true b6
          subst b2
          have ht := htl e ti hti
          obtain ⟨z, hz, _, hzr⟩ := ht.zero_run
          have hzs : z.cells.size = ti.size := by rw [← Array.length_toList, hz]; exact b4
          obtain ⟨p1, p2⟩ := asOfs_at hparts
          simp only [List.length_map] at p1
          have hul : us.length = idx.length := by simpa using hx.length
          have hzl : ((idx.map (·.1)).zip us).length = idx.length := by simp [hul]
          have hord : inOrder ((idx.map (·.1)).zip us) 0 = true := by
            have gen : ∀ (idx : List (Nat × V)) (us : List Value) (k : Nat), us.length = idx.length → inOrder idx k = true → inOrder ((idx.map (·.1)).zip us) k = true := by
              intro idx
              induction idx with
              | nil => intro us k _ _; rfl
              | cons x idx ih =>
                intro us k hl ho
                cases us with
                | nil => cases hl
                | cons u us =>
                  obtain ⟨a, b⟩ := x
                  simp only [inOrder, Bool.and_eq_true] at ho
                  simp only [List.map_cons, List.zip_cons_cons, inOrder, Bool.and_eq_true]
                  exact ⟨ho.1, ih us (k + 1) (by simpa using hl) ho.2⟩
            exact gen idx us 0 hul b1
          have hpart : ∀ (i : Nat) (as : List A), parts[i]? = some as → ∃ u, ((idx.map (·.1)).zip us)[i]? = some u ∧ AsRel ρ H as u.2.cells.toList ∧ u.2.cells.size = ti.size := by
            intro i as has
            obtain ⟨x, hx1, hx2⟩ := p2 i as has
            obtain ⟨u, hu1, hu2⟩ := hx.at_ i x hx1
            have hall := List.all_eq_true.1 b5 as (List.mem_of_getElem? has)
            rw [Bool.and_eq_true] at hall
            have hasl := Nat.eq_of_beq_eq_true hall.1
            obtain ⟨ha, _⟩ := asOf_rel hx2 hall.2 hu2
            simp only [List.getElem?_map, Option.map_eq_some_iff] at hx1
            obtain ⟨y, hy, _⟩ := hx1
            refine ⟨(y.1, u), by simp [List.getElem?_zip_eq_some, hy, hu1], ha, ?_⟩
            rw [← Array.length_toList, ha.1, hasl]
          have hsize : ∀ x ∈ (idx.map (·.1)).zip us, x.2.cells.size = ti.size := by
            intro x hm
            obtain ⟨i, hi, rfl⟩ := List.getElem_of_mem hm
            have hip : i < parts.length := by omega
            obtain ⟨u, hu1, _, hu3⟩ := hpart i _ (List.getElem?_eq_getElem hip)
            rw [List.getElem?_eq_getElem hi] at hu1
            cases hu1
            exact hu3
          generalize hcs0 : (Array.range (idx.length * ti.size)).map (z.cells[· % z.cells.size]!) = cs0
          have hcs0s : cs0.size = idx.length * ti.size := by rw [← hcs0]; simp
          obtain ⟨cs', f1, f2, _, f4⟩ := fill_order b3 ((idx.map (·.1)).zip us) 0 cs0 hord hsize (by rw [hzl, hcs0s]; simp)
          have hrun : (Instr.buildSlice t idx.length ((idx.map (·.1)).zip us).toArray).run P w = .ok (.slice (some ⟨w.heap.size, 0, none⟩) idx.length idx.length) (w.alloc (.cells cs' e)) := by
            have hlim : ¬ (idx.length * ti.size > 2 ^ 24) := by omega
            by_cases h00 : idx.length * ti.size = 0
            · have hi0 : idx = [] := by
                cases idx with
                | nil => rfl
                | cons a b =>
                  have : 0 < (a :: b).length * ti.size := Nat.mul_pos (by simp) b3
                  omega
              subst hi0
              have hu0 : us = [] := List.eq_nil_of_length_eq_zero (by simpa using hul)
              subst hu0
              simp [Instr.fill] at f1
              simp at hcs0
              subst hcs0
              subst f1
              simp [Instr.buildSlice, run_underlying hu, ht.size_run, Instr.fill, newRow]
              exact congrArg (fun x => w.alloc (Obj.cells x e)) (Array.ext (by simp) (fun i h1 _ => by simp at h1))
            · simp only [Instr.buildSlice, Sem.run_bind, run_underlying hu, Result.andThen_ok, ht.size_run, if_neg hlim, if_neg h00, Sem.run_ite, Sem.run_pure, hzr, Sem.run_map, hcs0, f1, newRow, run_newObj]
              rfl
          have hxp := Ext.push hr.len ⟨w.heap.size, 0, idx.length, true⟩ (.row e ti.size (idx.length : Int) cols)
          obtain ⟨c1, c2⟩ := colsOf_at hcols
          have ho : ObjRel (ρ ++ [⟨w.heap.size, 0, idx.length, true⟩]) (H ++ [.row e ti.size (idx.length : Int) cols]) (w.alloc (.cells cs' e)) ⟨w.heap.size, 0, idx.length, true⟩ (.row e ti.size (idx.length : Int) cols) := by
            refine ⟨⟨by omega, fun c hc => ?_, c1, b3, by simp, by simp [maxLen]; have : idx.length ≤ idx.length * ti.size := Nat.le_mul_of_pos_right _ b3; omega, by simp⟩, fun _ => ⟨cs', heap_alloc_new w _, ?_, fun i f c hi hf => ?_⟩⟩
            · obtain ⟨g, hg, rfl⟩ := List.getElem_of_mem hc
              rw [(c2 g _ (List.getElem?_eq_getElem hg)).1, p1]; simp
            · rw [f2, hcs0s]; simp
            · simp at hi
              have hip : i < parts.length := by omega
              have hfs : f < ti.size := by rw [← c1]; exact (List.getElem?_eq_some_iff.1 hf).1
              have hat := (c2 f c hf).2 i _ (List.getElem?_eq_getElem hip)
              obtain ⟨u, hu1, hu2, hu3⟩ := hpart i _ (List.getElem?_eq_getElem hip)
              have := f4 i f u hu1 hfs
              simp only [Nat.zero_add] at this hat ⊢
              rw [this]
              obtain ⟨y, hy, hya⟩ := hu2.get hat
              exact ⟨y, by simpa using hy, hya.ext hxp⟩
          exact ⟨_, _, _, hrun, hxp, hr.push rfl rfl rfl (by simp) (fun k hk => heap_alloc_old w _ k hk) (fun _ => Nat.le_refl _) ho, .inr ⟨⟨w.heap.size, 0, idx.length, true⟩, by rw [← hr.len]; simp, by simp, by omega, by simp, .inl ⟨rfl, _, by simp; rfl, fun _ => by simp [Pl.addr]⟩⟩⟩
        · cases h
    · cases h
  · cases h
end
end Go.Sx
