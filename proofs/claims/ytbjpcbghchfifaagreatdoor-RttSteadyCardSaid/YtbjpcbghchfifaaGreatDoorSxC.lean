/-
  The operations that only read: what they give.
-/
import Derived.Test.YtbjpcbghchfifaaGreatDoorSxB
import Derived.Laws.Cells
set_option linter.all false
namespace Go.Sx
open Go

def QRun (P : Program) (o : Oper) (a : Act) (w : World) (u : Value) : Prop := (execOp a.eval o).run P w = .ok (.value u) w

/-- The blocks of these objects are the same. -/
def HSame (ρ : List Pl) (H : Heap) (ids : List Nat) (w w' : World) : Prop := ∀ i ∈ ids, ∀ (p : Pl) (o : AObj), ρ[i]? = some p → H[i]? = some o → o.isDead = false → p.real = true → w'.heap[p.blk]? = w.heap[p.blk]?
theorem HSame.of_heap {ρ : List Pl} {H : Heap} {ids : List Nat} {w w' : World} (h : w'.heap = w.heap) : HSame ρ H ids w w' := fun _ _ _ _ _ _ _ _ => by rw [h]
/-- The object that a value leads to. -/
def idsV : V → List Nat
  | .at (.ptr id _) => [id]
  | .at (.eptr id _ _ _) => [id]
  | .at (.sl id _ _ _) => [id]
  | .at (.map id) => [id]
  | _ => []
def NOk (P : Program) (ρ : List Pl) (H : Heap) (ids : List Nat) (o : Oper) (a : Act) (w : World) (v : V) : Prop :=
  ∃ u, VRel ρ H v u ∧ ∀ w' : World, HSame ρ H ids w w' → QRun P o a w' u

theorem cell_at {w : World} {p : Pl} {cur : Array Value} {t : TypeId} {fz : Nat × Nat} (h : w.heap[p.blk]? = some (.cells cur t fz)) (k : Nat) : w.cell? (p.addr k) = cur[p.off + k]? := by
  simp [World.cell?, Pl.addr, h]
theorem addr_add (p : Pl) (k j : Nat) : (p.addr k).add j = p.addr (k + j) := by
  unfold Pl.addr Addr.add
  split <;> simp_all [Nat.add_assoc]

/-- A list of columns, read at one element. -/
def colsAt (cs : List Col) (i : Nat) : List A := cs.map (·.at i)

def nLoad (tl : Tab) (H : Heap) (t : TypeId) (x : V) : Option (V × Bool) :=
  match lk tl t with
  | none => none
  | some ti =>
    match x with
    | .at (.ptr id off) =>
      match H[id]? with
      | some (.cells _ cs) =>
        match ti.kind.isAgg with
        | some false => match cs[off]? with | some a => some (.at a, true) | none => none
        | some true => bif Nat.ble (off + ti.size) cs.length then some (.agg ((cs.drop off).take ti.size), true) else none
        | none => none
      | _ => none
    | .at (.eptr id sz i f) =>
      match H[id]? with
      | some (.row _ sz' n cols) | some (.ro _ sz' n cols) =>
        bif Nat.beq sz sz' then
          match ti.kind.isAgg with
          | some false => match cols[f]? with | some c => some (.at (c.at i.toNat), decide (0 ≤ i ∧ i < n)) | none => none
          | some true => bif Nat.ble (f + ti.size) cols.length then some (.agg (colsAt ((cols.drop f).take ti.size) i.toNat), decide (0 ≤ i ∧ i < n)) else none
          | none => none
        else none
      | _ => none
    | _ => none

section
variable {P : Program} {E : Nat → Prop} {w0 w : World} {ρ : List Pl} {H : Heap}

theorem loadVar_one {t : TypeId} {ti : TI} (ht : TiOk P t ti) (hk : ti.kind.isAgg = some false) {a : Addr} {u : Value} {w' : World} (hc : w'.cell? a = some u) :
    (Instr.loadAt t (.pointer (some a))).run P w' = .ok u w' := by
  simp [Instr.loadAt, Instr.sureAddr, loadVar, ht.isAgg_run hk, hc]
theorem loadVar_agg {t : TypeId} {ti : TI} (ht : TiOk P t ti) (hk : ti.kind.isAgg = some true) {a : Addr} {vs : List Value} {w' : World} (hl : vs.length = ti.size) (hc : ∀ j v, vs[j]? = some v → w'.cell? (a.add j) = some v) :
    (Instr.loadAt t (.pointer (some a))).run P w' = .ok (.agg vs.toArray) w' := by
  have := run_loadCells_list (P := P) w' a vs hc
  rw [hl] at this
  simp [Instr.loadAt, Instr.sureAddr, loadVar, ht.isAgg_run hk, ht.size_run, this]

theorem AsRel.get {as : List A} {vs : List Value} (h : AsRel ρ H as vs) {j : Nat} {a : A} (ha : as[j]? = some a) : ∃ v, vs[j]? = some v ∧ ARel ρ H a v := by
  have hj : j < vs.length := by rw [h.1]; exact (List.getElem?_eq_some_iff.1 ha).1
  exact ⟨vs[j], List.getElem?_eq_getElem hj, h.2 j a _ ha (List.getElem?_eq_getElem hj)⟩
theorem AsRel.part {as : List A} {vs : List Value} (h : AsRel ρ H as vs) (o n : Nat) : AsRel ρ H ((as.drop o).take n) ((vs.drop o).take n) := by
  refine ⟨by simp [h.1], fun j a v ha hv => ?_⟩
  simp only [List.getElem?_take, List.getElem?_drop] at ha hv
  split at ha
  · rename_i hj; simp only [hj, if_true] at hv; exact h.2 _ a v ha hv
  · cases ha

theorem nLoad_ok {tl : Tab} (htl : TabOk P tl) (hr : HRead ρ H w) {t : TypeId} {x v : V} {u : Value} {c : Bool} (h : nLoad tl H t x = some (v, c)) (hc : c = true) (hx : VRel ρ H x u) :
    ∃ y, VRel ρ H v y ∧ ∀ w' : World, HSame ρ H (idsV x) w w' → (Instr.loadAt t u).run P w' = .ok y w' := by
  unfold nLoad at h
  cases hti : lk tl t with
  | none => rw [hti] at h; cases h
  | some ti =>
    rw [hti] at h
    simp only at h
    have ht := htl t ti hti
    split at h
    · rename_i id off
      split at h
      · rename_i tt cs hid
        obtain ⟨p, hp, h1, h2, cur, h3, h4⟩ := hr.at hid
        have hg : u = .pointer (some (p.addr off)) := by
          rcases hx with hx | ⟨q, hq, hx⟩
          · rw [Gone, hid] at hx; cases hx
          · rw [hp] at hq; cases hq; exact hx
        subst hg
        split at h
        · rename_i hk
          split at h
          · rename_i a ha
            simp only [Option.some.injEq, Prod.mk.injEq] at h
            obtain ⟨rfl, rfl⟩ := h
            obtain ⟨y, hy, hya⟩ := h4.get ha
            refine ⟨y, hya, fun w' hw => loadVar_one ht hk ?_⟩
            rw [cell_at (t := tt) (fz := (0, 0)) (cur := cur) (by rw [hw id (by simp [idsV]) _ _ hp hid rfl h1]; exact h3), h2, Nat.zero_add]
            simpa using hy
          · cases h
        · rename_i hk
          cases hb : Nat.ble (off + ti.size) cs.length with
          | false => rw [hb] at h; cases h
          | true =>
            rw [hb] at h
            simp only [cond_true, Option.some.injEq, Prod.mk.injEq] at h
            obtain ⟨rfl, rfl⟩ := h
            have hle := Nat.le_of_ble_eq_true hb
            refine ⟨.agg ((cur.toList.drop off).take ti.size).toArray, ⟨_, rfl, h4.part off ti.size⟩, fun w' hw => loadVar_agg ht hk (by simp [h4.1]; have := h4.1; simp at this; omega) fun j y hy => ?_⟩
            rw [addr_add, cell_at (t := tt) (fz := (0, 0)) (cur := cur) (by rw [hw id (by simp [idsV]) _ _ hp hid rfl h1]; exact h3), h2, Nat.zero_add]
            simp only [List.getElem?_take, List.getElem?_drop] at hy
            split at hy
            · simpa using hy
            · cases hy
        · cases h
      · cases h
    · rename_i id sz i f
      have key : ∀ (_e : TypeId) n cols, ((∃ p, ρ[id]? = some p ∧ RowOk p sz n cols ∧ (p.real = true → ∃ cur e fz, w.heap[p.blk]? = some (.cells cur e fz) ∧ ColsRel ρ H p sz n cols cur)) ∧ ∃ o, H[id]? = some o ∧ o.isDead = false) →
          (match ti.kind.isAgg with
            | some false => match cols[f]? with | some c => some (V.at (c.at i.toNat), decide (0 ≤ i ∧ i < n)) | none => none
            | some true => bif Nat.ble (f + ti.size) cols.length then some (.agg (colsAt ((cols.drop f).take ti.size) i.toNat), decide (0 ≤ i ∧ i < n)) else none
            | none => none) = some (v, c) →
          ∃ y, VRel ρ H v y ∧ ∀ w' : World, HSame ρ H [id] w w' → (Instr.loadAt t u).run P w' = .ok y w' := by
        intro e0 n cols ⟨⟨p, hp, hok, hreal⟩, o, ho, hod⟩ h
        have hnd : H[id]? ≠ some .dead := fun hx => by rw [ho] at hx; cases hx; cases hod
        have hg : u = .pointer (some (p.addr (i.toNat * sz + f))) := by
          rcases hx with hx | ⟨q, hq, hx⟩
          · exact absurd hx hnd
          · rw [hp] at hq; cases hq; exact hx
        subst hg
        have hin0 : c = true → i.toNat < n.toNat := fun hc => by
          split at h
          · split at h
            · simp only [Option.some.injEq, Prod.mk.injEq] at h; obtain ⟨_, rfl⟩ := h; have hc := of_decide_eq_true hc; omega
            · cases h
          · cases hb : Nat.ble (f + ti.size) cols.length with
            | false => rw [hb] at h; cases h
            | true => rw [hb] at h; simp only [cond_true, Option.some.injEq, Prod.mk.injEq] at h; obtain ⟨_, rfl⟩ := h; have hc := of_decide_eq_true hc; omega
          · cases h
        have hin := hin0 hc
        clear hin0
        have hrl : p.real = true := by
          cases hpr : p.real with
          | true => rfl
          | false => have := hok.2.2.2.2.2.2 hpr; have := hok.2.2.2.2.1; omega
        obtain ⟨cur, e, fz, hh, hcols⟩ := hreal hrl
        split at h
        · rename_i hk
          split at h
          · rename_i col hcol
            simp only [Option.some.injEq, Prod.mk.injEq] at h
            obtain ⟨rfl, rfl⟩ := h
            obtain ⟨y, hy, hya⟩ := hcols i.toNat f col hin hcol
            refine ⟨y, hya, fun w' hw => loadVar_one ht hk ?_⟩
            rw [cell_at (t := e) (fz := fz) (cur := cur) (by rw [hw id (by simp) _ _ hp ho hod hrl]; exact hh)]
            rw [← Nat.add_assoc]
            exact hy
          · cases h
        · rename_i hk
          cases hb : Nat.ble (f + ti.size) cols.length with
          | false => rw [hb] at h; cases h
          | true =>
            rw [hb] at h
            simp only [cond_true, Option.some.injEq, Prod.mk.injEq] at h
            obtain ⟨rfl, rfl⟩ := h
            have hle := Nat.le_of_ble_eq_true hb
            have hget : ∀ j, j < ti.size → ∃ y, cur[p.off + i.toNat * sz + (f + j)]? = some y ∧ ∀ a, (colsAt ((cols.drop f).take ti.size) i.toNat)[j]? = some a → ARel ρ H a y := by
              intro j hj
              have hlt : f + j < cols.length := by omega
              obtain ⟨y, hy, hya⟩ := hcols i.toNat (f + j) cols[f + j] hin (List.getElem?_eq_getElem hlt)
              refine ⟨y, hy, fun a ha => ?_⟩
              simp only [colsAt, List.getElem?_map, List.getElem?_take, List.getElem?_drop, hj, if_true, List.getElem?_eq_getElem hlt, Option.map_some, Option.some.injEq] at ha
              subst ha; exact hya
            let vs := (List.range ti.size).map fun j => (cur[p.off + i.toNat * sz + (f + j)]?).getD undef
            have hvs : ∀ (j : Nat) (y : Value), vs[j]? = some y → j < ti.size ∧ cur[p.off + i.toNat * sz + (f + j)]? = some y := by
              intro j y hy
              simp only [vs, List.getElem?_map, List.getElem?_range] at hy
              by_cases hj : j < ti.size
              · simp only [List.getElem?_range hj, Option.map_some, Option.some.injEq] at hy
                obtain ⟨z, hz, _⟩ := hget j hj
                rw [hz] at hy ⊢
                exact ⟨hj, congrArg some hy⟩
              · simp [List.getElem?_eq_none, Nat.le_of_not_lt hj] at hy
            refine ⟨.agg vs.toArray, ⟨vs, rfl, by simp [vs, colsAt]; omega, fun j a y ha hy => ?_⟩, fun w' hw => loadVar_agg ht hk (by simp [vs]) fun j y hy => ?_⟩
            · obtain ⟨hj, hcy⟩ := hvs j y hy
              obtain ⟨z, hz, hza⟩ := hget j hj
              rw [hz] at hcy; cases hcy
              exact hza a ha
            · obtain ⟨hj, hcy⟩ := hvs j y hy
              rw [addr_add, cell_at (t := e) (fz := fz) (cur := cur) (by rw [hw id (by simp) _ _ hp ho hod hrl]; exact hh)]
              rw [show p.off + (i.toNat * sz + f + j) = p.off + i.toNat * sz + (f + j) by omega]
              exact hcy
        · cases h
      split at h
      · rename_i e sz' n cols hid
        cases hb : Nat.beq sz sz' with
        | false => rw [hb] at h; cases h
        | true =>
          have e' : sz = sz' := Nat.eq_of_beq_eq_true hb
          subst e'
          rw [hb] at h
          obtain ⟨p, hp, hok, hreal⟩ := hr.at hid
          exact key e n cols ⟨⟨p, hp, hok, fun hr => let ⟨cur, a1, _, a3⟩ := hreal hr; ⟨cur, _, _, a1, a3⟩⟩, _, hid, rfl⟩ h
      · rename_i e sz' n cols hid
        cases hb : Nat.beq sz sz' with
        | false => rw [hb] at h; cases h
        | true =>
          have e' : sz = sz' := Nat.eq_of_beq_eq_true hb
          subst e'
          rw [hb] at h
          obtain ⟨p, hp, hok, hreal⟩ := hr.at hid
          exact key e n cols ⟨⟨p, hp, hok, hreal⟩, _, hid, rfl⟩ h
      · cases h
    · cases h
end
end Go.Sx
