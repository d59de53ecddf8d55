/-
  The operations that turn memory, together; a region; the executor along one path; its soundness.
-/
import Derived.Test.YtbjpcbghchfifaaGreatDoorSxL
set_option linter.all false
namespace Go.Sx
open Go

def nothing : V := .at (.raw undef)

def eopE (tl : Tab) (H : Heap) (fr : Fr) (op : Op) : Option (V × Heap × Bool) :=
  match op with
  | .alloc t => match eAlloc H tl t with | some (v, H') => some (v, H', true) | none => none
  | .box t x => match eBox H t (ev fr x) with | some (v, H') => some (v, H', true) | none => none
  | .buildSlice t n ⟨ps⟩ => match eBuild H tl t n (ps.map fun x => (x.1, ev fr x.2)) with | some (v, H') => some (v, H', true) | none => none
  | .makeMap t none => match eMakeMap H tl t with | some (v, H') => some (v, H', true) | none => none
  | .store t p x => match eStore H tl t (ev fr p) (ev fr x) with | some (H', c) => some (nothing, H', c) | none => none
  | .mapUpdate t m k x => match eMapUpdate H tl t (ev fr m) (ev fr k) (ev fr x) with | some H' => some (nothing, H', true) | none => none
  | .call { callee := .builtin .append, args := ⟨[s, x]⟩, argTypes := ⟨[t, t2]⟩ } => match eAppend H tl t t2 (ev fr s) (ev fr x) with | some (v, H', c) => some (v, H', c) | none => none
  | .call { callee := .builtin .delete, args := ⟨[m, k]⟩, argTypes := ⟨t :: _⟩ } => match eDelete H tl t (ev fr m) (ev fr k) with | some H' => some (nothing, H', true) | none => none
  | .call { callee := .builtin .copy, args := ⟨[d, s]⟩, argTypes := ⟨[t, _]⟩ } => match eCopy H tl t (ev fr d) (ev fr s) with | some (v, H', c) => some (v, H', c) | none => none
  | .makeSlice t l c => match eMake H tl t (ev fr l) (ev fr c) with | some (v, H', b) => some (v, H', b) | none => none
  | _ => none

section
variable {P : Program} {E : Nat → Prop} {w0 w : World} {ρ : List Pl} {H : Heap} {n : Nat} {fr : Fr} {a : Act}

/-- What an operation that turns memory does. -/
def XOk (P : Program) (E : Nat → Prop) (w0 w : World) (ρ : List Pl) (H : Heap) (o : Oper) (a : Act) (v : V) (H' : Heap) : Prop :=
  ∃ u w' ρ', ((execOp a.eval o).run P w = .ok (.value u) w' ∨ ((execOp a.eval o).run P w = .ok .skip w' ∧ u = undef)) ∧ Ext ρ H ρ' H' ∧ HRel E w0 ρ' H' w' ∧ VRel ρ' H' v u

theorem eopE_ok {tl : Tab} (htl : TabOk P tl) (hr : HRel E w0 ρ H w) (hf : FRel n ρ H fr a) {o : Oper} {v : V} {H' : Heap} {c : Bool} (h : eopE tl H fr o.op = some (v, H', c)) (hc : c = true) : XOk P E w0 w ρ H o a v H' := by
  have val : ∀ {s : Sem Value}, execOp a.eval o = (do pure (.value (← s))) → EOk P E w0 w ρ H s v H' → XOk P E w0 w ρ H o a v H' := by
    rintro s he ⟨u, w', ρ', h1, h2, h3, h4⟩
    refine ⟨u, w', ρ', .inl ?_, h2, h3, h4⟩
    rw [he]; simp [h1]
  have unit : ∀ {s : Sem Unit} {w' : World}, execOp a.eval o = (do s; pure .skip) → s.run P w = .ok () w' → Ext ρ H ρ H' → HRel E w0 ρ H' w' → v = nothing → XOk P E w0 w ρ H o a v H' := by
    rintro s w' he h1 h2 h3 rfl
    refine ⟨undef, w', ρ, .inr ⟨?_, rfl⟩, h2, h3, rfl⟩
    rw [he]; simp [h1]
  unfold eopE at h
  split at h
  case h_1 t ho =>
    split at h
    · rename_i v' H1 hv; cases h; exact val (by unfold execOp; rw [ho]) (eAlloc_ok htl hr hv)
    · cases h
  case h_2 t x ho =>
    split at h
    · rename_i v' H1 hv; cases h; exact val (by unfold execOp; rw [ho]) (eBox_ok hr hv (ev_rel hf x))
    · cases h
  case h_3 t m ps ho =>
    split at h
    · rename_i v' H1 hv
      cases h
      have hargs : VsRel ρ H ((ps.map fun x => (x.1, ev fr x.2)).map (·.2)) (ps.map fun x => a.eval x.2) := by
        have := evs_rel hf (ps.map (·.2))
        simpa [List.map_map, Function.comp_def] using this
      have e : (Array.map (fun x : Nat × Operand => (x.1, a.eval x.2)) ⟨ps⟩) = (((ps.map fun x => (x.1, ev fr x.2)).map (·.1)).zip (ps.map fun x => a.eval x.2)).toArray := by
        apply Array.ext'
        simp only [List.map_toArray]
        clear hargs hv ho val unit
        induction ps with
        | nil => rfl
        | cons p ps ih => simp [ih]
      have hb := eBuild_ok htl hr hv hargs
      rw [← e] at hb
      exact val (by unfold execOp; rw [ho]) hb
    · cases h
  case h_4 t ho =>
    split at h
    · rename_i v' H1 hv; cases h; exact val (by unfold execOp; rw [ho]; rfl) (eMakeMap_ok htl hr hv)
    · cases h
  case h_5 t p x ho =>
    split at h
    · rename_i H1 c' hv
      cases h
      obtain ⟨w', h1, h2, h3⟩ := eStore_ok htl hr hv hc (ev_rel hf p) (ev_rel hf x)
      exact unit (by unfold execOp; rw [ho]) h1 h2 h3 rfl
    · cases h
  case h_6 t m k x ho =>
    split at h
    · rename_i H1 hv
      cases h
      obtain ⟨w', h1, h2, h3⟩ := eMapUpdate_ok htl hr hv (ev_rel hf m) (ev_rel hf k) (ev_rel hf x)
      exact unit (by unfold execOp; rw [ho]) h1 h2 h3 rfl
    · cases h
  case h_7 s x t t2 ho =>
    split at h
    · rename_i v' H1 c' hv
      cases h
      exact val (by unfold execOp; rw [ho]; simp [resolve, invoke, builtin]) (eAppend_ok (ty := o.type) htl hr hv hc (ev_rel hf s) (ev_rel hf x))
    · cases h
  case h_8 m k t ts ho =>
    split at h
    · rename_i H1 hv
      cases h
      obtain ⟨w', h1, h2, h3⟩ := eDelete_ok (ty := o.type) htl hr hv (ev_rel hf m) (ev_rel hf k) (t :: ts).toArray rfl
      refine val (s := Builtin.delete_ (t :: ts).toArray o.type #[a.eval m, a.eval k]) (by unfold execOp; rw [ho]; simp [resolve, invoke, builtin]) ⟨_, w', ρ, h1, h2, h3, rfl⟩
    · cases h
  case h_9 d s t t2 ho =>
    split at h
    · rename_i v' H1 c' hv
      cases h
      exact val (by unfold execOp; rw [ho]; simp [resolve, invoke, builtin]) (eCopy_ok (ty := o.type) (t2 := t2) htl hr hv hc (ev_rel hf d) (ev_rel hf s))
    · cases h
  case h_10 t l c' ho =>
    split at h
    · rename_i v' H1 b hv
      cases h
      exact val (by unfold execOp; rw [ho]) (eMake_ok htl hr hv hc (ev_rel hf l) (ev_rel hf c'))
    · cases h
  case h_11 => cases h

/-- The state of a run: what the frame and the heap say. -/
structure St (pure : Bool) (E : Nat → Prop) (w0 ws : World) (n : Nat) (ρ0 : List Pl) (ρ : List Pl) (H : Heap) (fr : Fr) (a : Act) (w : World) : Prop where
  pre : ∀ (i : Nat) (p : Pl), ρ0[i]? = some p → ρ[i]? = some p
  frame : FRel n ρ H fr a
  heap : HRel E w0 ρ H w
  still : pure = true → ∃ k, w = ws.drewN k

theorem St.drewN {pure : Bool} {ws : World} {ρ0 : List Pl} (h : St pure E w0 ws n ρ0 ρ H fr a w) (k : Nat) : St pure E w0 ws n ρ0 ρ H fr a (w.drewN k) :=
  ⟨h.pre, h.frame, h.heap.drewN k, fun hp => let ⟨j, hj⟩ := h.still hp; ⟨j + k, by rw [hj, World.drewN_drewN]⟩⟩

def putFr (n : Nat) (fr : Fr) (d : Option Tmp) (v : V) : Option Fr :=
  match d with
  | none => some fr
  | some d => bif Nat.ble (d + 1) n then some ((d, v) :: fr) else none

theorem putFr_ok {fr' : Fr} {d : Option Tmp} {v : V} {u : Value} (h : putFr n fr d v = some fr') (hf : FRel n ρ H fr a) (hv : VRel ρ H v u) : FRel n ρ H fr' (a.put d u) := by
  unfold putFr at h
  split at h
  · cases h; exact hf
  · rename_i d
    cases hb : Nat.ble (d + 1) n with
    | false => rw [hb] at h; cases h
    | true => rw [hb] at h; cases h; exact hf.put (Nat.le_of_ble_eq_true hb) hv

end
end Go.Sx
