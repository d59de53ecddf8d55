/-
  The operations together; regions; the executor along one path; its soundness.
-/
import Derived.Test.YtbjpcbghchfifaaGreatDoorSxLa
set_option linter.all false
namespace Go.Sx
open Go

def FnOk (P : Program) (f : FuncId) : Prop := ∃ fn, P.funcs[f]? = some fn ∧ (fn.name == "runtime.NumGoroutine") = false ∧ fn.body.isNone = false

def nOp (tl : Tab) (H : Heap) (fr : Fr) (op : Op) : Option (V × Bool) :=
  match op with
  | .move x => some (ev fr x, true)
  | .assign x => some (ev fr x, true)
  | .nilCheck x =>
    match ev fr x with
    | .at (.ptr id o) => bif alive H id then some (.at (.ptr id o), true) else none
    | .at (.eptr id sz i f) => bif alive H id then some (.at (.eptr id sz i f), true) else none
    | _ => none
  | .binOp o t x y _ => match nBin H tl o t (ev fr x) (ev fr y) with | some (v, c) => some (v, c) | none => none
  | .unOp o _ x => match nUn o (ev fr x) with | some v => some (v, true) | none => none
  | .convert s d x => match nConv tl s d (ev fr x) with | some v => some (v, true) | none => (match nStr H tl s d (ev fr x) with | some (v, c) => some (v, c) | none => none)
  | .makeFunc fn ⟨first⟩ ⟨caps⟩ => match nFunc fn (first.map (ev fr)) (caps.map (ev fr)) with | some v => some (v, true) | none => none
  | .extract x i => match nExtract (ev fr x) i with | some v => some (v, true) | none => none
  | .field t x f => match nField tl t (ev fr x) f with | some v => some (v, true) | none => none
  | .fieldAddr t x f => match nFieldAddr H tl t (ev fr x) f with | some v => some (v, true) | none => none
  | .index t x i => match nIndex tl t (ev fr x) (ev fr i) with | some (v, c) => some (v, c) | none => none
  | .indexAddr t x i => match nIndexAddr H tl t (ev fr x) (ev fr i) with | some (v, c) => some (v, c) | none => none
  | .slice t x lo hi none => match nSlice H tl t (ev fr x) (lo.map (ev fr)) (hi.map (ev fr)) with | some (v, c) => some (v, c) | none => none
  | .load t x => match nLoad tl H t (ev fr x) with | some (v, c) => some (v, c) | none => none
  | .build t ⟨ps⟩ => match nBuild H tl t (ps.map fun x => (x.1, ev fr x.2)) with | some v => some (v, true) | none => none
  | .lookup t m k ok => match nLookup H tl t (ev fr m) (ev fr k) ok with | some v => some (v, true) | none => none
  | .call { callee := .builtin .len, args := ⟨[x]⟩, argTypes := ⟨[t]⟩ } => match nLen H tl t (ev fr x) with | some v => some (v, true) | none => none
  | .call { callee := .builtin .max, args := ⟨xs⟩, .. } => match nMM maxI (xs.map (ev fr)) with | some v => some (v, true) | none => none
  | .call { callee := .builtin .min, args := ⟨xs⟩, .. } => match nMM minI (xs.map (ev fr)) with | some v => some (v, true) | none => none
  | _ => none

/-- The objects that an operation reads. -/
def rdIds (fr : Fr) (op : Op) : List Nat :=
  match op with
  | .load _ x => idsV (ev fr x)
  | .lookup _ m _ _ => idsV (ev fr m)
  | .convert _ _ x => idsV (ev fr x)
  | .call { callee := .builtin .len, args := ⟨[x]⟩, .. } => idsV (ev fr x)
  | _ => []
section
variable {P : Program} {E : Nat → Prop} {w0 w : World} {ρ : List Pl} {H : Heap} {n : Nat} {fr : Fr} {a : Act}

theorem evs_rel (h : FRel n ρ H fr a) : ∀ xs : List Operand, VsRel ρ H (xs.map (ev fr)) (xs.map a.eval)
  | [] => .nil
  | x :: xs => .cons (ev_rel h x) (evs_rel h xs)

theorem callFunc_enter {f : FuncId} (h : FnOk P f) (args : Array Value) (w : World) : (callFunc f args).run P w = .ok (.enter f args) w := by
  obtain ⟨fn, h1, h2, h3⟩ := h
  simp only [callFunc, Sem.run_bind, run_program, Result.andThen_ok, h1, h2, h3, Bool.false_eq_true, if_false]
  rfl

theorem nOp_ok {tl : Tab} (htl : TabOk P tl) (hr : HRead ρ H w) (hf : FRel n ρ H fr a) {o : Oper} {v : V} {c : Bool} (h : nOp tl H fr o.op = some (v, c)) (hc : c = true) : NOk P ρ H (rdIds fr o.op) o a w v := by
  have val : ∀ {s : Sem Value} {y : Value} {w' : World}, execOp a.eval o = (do pure (.value (← s))) → s.run P w' = .ok y w' → QRun P o a w' y := by
    intro s y w' he hs
    unfold QRun
    rw [he]
    simp [hs]
  unfold nOp at h
  split at h
  case h_1 x ho =>
    cases h
    exact ⟨a.eval x, ev_rel hf x, fun w' _ => (show QRun P o a w' _ by unfold QRun execOp; rw [ho]; rfl)⟩
  case h_2 x ho =>
    cases h
    exact ⟨a.eval x, ev_rel hf x, fun w' _ => (show QRun P o a w' _ by unfold QRun execOp; rw [ho]; rfl)⟩
  case h_3 x ho =>
    have hb := ev_rel hf x
    split at h
    · rename_i id o' hx
      cases ha : alive H id with
      | false => rw [ha] at h; cases h
      | true =>
        rw [ha] at h; cases h
        rw [hx] at hb
        obtain ⟨p, hp, hu⟩ := hb.resolve_left (not_gone ha)
        exact ⟨a.eval x, hb, fun w' _ => (show QRun P o a w' _ by unfold QRun execOp; rw [ho]; simp [hu])⟩
    · rename_i id sz i f hx
      cases ha : alive H id with
      | false => rw [ha] at h; cases h
      | true =>
        rw [ha] at h; cases h
        rw [hx] at hb
        obtain ⟨p, hp, hu⟩ := hb.resolve_left (not_gone ha)
        exact ⟨a.eval x, hb, fun w' _ => (show QRun P o a w' _ by unfold QRun execOp; rw [ho]; simp [hu])⟩
    · cases h
  case h_4 op t x y yt ho =>
    split at h
    · rename_i v' c' hv
      cases h
      obtain ⟨y', h1, h2⟩ := nBin_ok (ox := x) (oy := y) htl hv hc (ev_rel hf x) (ev_rel hf y)
      exact ⟨y', h1, fun w' _ => val (by unfold execOp; rw [ho]) (h2 w')⟩
    · cases h
  case h_5 op t x ho =>
    split at h
    · rename_i v' hv
      cases h
      obtain ⟨y', h1, h2⟩ := nUn_ok hv (ev_rel hf x)
      exact ⟨y', h1, fun w' _ => val (by unfold execOp; rw [ho]) (h2 w')⟩
    · cases h
  case h_6 s d x ho =>
    split at h
    · rename_i v' hv
      cases h
      obtain ⟨y', h1, h2⟩ := nConv_ok htl hv (ev_rel hf x)
      exact ⟨y', h1, fun w' _ => val (by unfold execOp; rw [ho]) (h2 w')⟩
    · split at h
      · rename_i v' c' hv
        cases h
        obtain ⟨y', h1, h2⟩ := nStr_ok htl hr hv hc (ev_rel hf x)
        exact ⟨y', h1, fun w' hw => val (by unfold execOp; rw [ho]) (h2 w' (by rw [ho] at hw; exact hw))⟩
      · cases h
  case h_7 fn first caps ho =>
    split at h
    · rename_i v' hv
      cases h
      obtain ⟨y', h1, h2⟩ := nFunc_ok (P := P) hv (evs_rel hf first) (evs_rel hf caps)
      exact ⟨y', h1, fun w' _ => val (by unfold execOp; rw [ho]; simp) (h2 w')⟩
    · cases h
  case h_8 x i ho =>
    split at h
    · rename_i v' hv
      cases h
      obtain ⟨y', h1, h2⟩ := nExtract_ok (P := P) hv (ev_rel hf x)
      exact ⟨y', h1, fun w' _ => val (by unfold execOp; rw [ho]) (h2 w')⟩
    · cases h
  case h_9 t x f ho =>
    split at h
    · rename_i v' hv
      cases h
      obtain ⟨y', h1, h2⟩ := nField_ok htl hv (ev_rel hf x)
      exact ⟨y', h1, fun w' _ => val (by unfold execOp; rw [ho]) (h2 w')⟩
    · cases h
  case h_10 t x f ho =>
    split at h
    · rename_i v' hv
      cases h
      obtain ⟨y', h1, h2⟩ := nFieldAddr_ok htl hv (ev_rel hf x)
      exact ⟨y', h1, fun w' _ => val (by unfold execOp; rw [ho]) (h2 w')⟩
    · cases h
  case h_11 t x i ho =>
    split at h
    · rename_i v' c' hv
      cases h
      obtain ⟨y', h1, h2⟩ := nIndex_ok htl hv hc (ev_rel hf x) (ev_rel hf i)
      exact ⟨y', h1, fun w' _ => val (by unfold execOp; rw [ho]) (h2 w')⟩
    · cases h
  case h_12 t x i ho =>
    split at h
    · rename_i v' c' hv
      cases h
      obtain ⟨y', h1, h2⟩ := nIndexAddr_ok htl hv hc (ev_rel hf x) (ev_rel hf i)
      exact ⟨y', h1, fun w' _ => val (by unfold execOp; rw [ho]) (h2 w')⟩
    · cases h
  case h_13 t x lo hi ho =>
    split at h
    · rename_i v' c' hv
      cases h
      have opt : ∀ q : Option Operand, (q.map (ev fr) = none ∧ q.map a.eval = none) ∨ ∃ x u, q.map (ev fr) = some x ∧ q.map a.eval = some u ∧ VRel ρ H x u := by
        intro q
        cases q with
        | none => exact .inl ⟨rfl, rfl⟩
        | some q => exact .inr ⟨_, _, rfl, rfl, ev_rel hf q⟩
      obtain ⟨y', h1, h2⟩ := nSlice_ok htl hv hc (ev_rel hf x) (opt lo) (opt hi)
      exact ⟨y', h1, fun w' _ => val (by unfold execOp; rw [ho]; rfl) (h2 w')⟩
    · cases h
  case h_14 t x ho =>
    split at h
    · rename_i v' c' hv
      cases h
      obtain ⟨y', h1, h2⟩ := nLoad_ok htl hr hv hc (ev_rel hf x)
      exact ⟨y', h1, fun w' hw => val (by unfold execOp; rw [ho]) (h2 w' (by rw [ho] at hw; exact hw))⟩
    · cases h
  case h_15 t ps ho =>
    split at h
    · rename_i v' hv
      cases h
      have hargs : VsRel ρ H ((ps.map fun x => (x.1, ev fr x.2)).map (·.2)) (ps.map fun x => a.eval x.2) := by
        have := evs_rel hf (ps.map (·.2))
        simpa [List.map_map, Function.comp_def] using this
      obtain ⟨y', h1, h2⟩ := nBuild_ok htl hv hargs
      refine ⟨y', h1, fun w' _ => val (by unfold execOp; rw [ho]) ?_⟩
      have := h2 w'
      rw [← this]
      congr 2
      apply Array.ext'
      simp only [List.map_toArray]
      clear h2 this hargs hv ho
      induction ps with
      | nil => rfl
      | cons p ps ih => simp [ih]
    · cases h
  case h_16 t m k ok ho =>
    split at h
    · rename_i v' hv
      cases h
      obtain ⟨y', h1, h2⟩ := nLookup_ok htl hr hv (ev_rel hf m) (ev_rel hf k)
      exact ⟨y', h1, fun w' hw => val (by unfold execOp; rw [ho]) (h2 w' (by rw [ho] at hw; exact hw))⟩
    · cases h
  case h_17 x t ho =>
    split at h
    · rename_i v' hv
      cases h
      obtain ⟨y', h1, h2⟩ := nLen_ok (ty := o.type) htl hr hv (ev_rel hf x)
      exact ⟨y', h1, fun w' hw => val (by unfold execOp; rw [ho]; simp [resolve, invoke, builtin]) (h2 w' (by rw [ho] at hw; exact hw))⟩
    · cases h
  case h_18 xs at_ ho =>
    split at h
    · rename_i v' hv
      cases h
      obtain ⟨y', h1, h2⟩ := nMax_ok (P := P) hv (evs_rel hf xs) at_ o.type
      exact ⟨y', h1, fun w' hw => val (by unfold execOp; rw [ho]; simp [resolve, invoke, builtin]) (h2 w')⟩
    · cases h
  case h_19 xs at_ ho =>
    split at h
    · rename_i v' hv
      cases h
      obtain ⟨y', h1, h2⟩ := nMin_ok (P := P) hv (evs_rel hf xs) at_ o.type
      exact ⟨y', h1, fun w' hw => val (by unfold execOp; rw [ho]; simp [resolve, invoke, builtin]) (h2 w')⟩
    · cases h
  case h_20 => cases h
end
end Go.Sx
