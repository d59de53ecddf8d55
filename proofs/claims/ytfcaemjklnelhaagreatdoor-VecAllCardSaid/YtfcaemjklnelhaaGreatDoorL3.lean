import Derived.Test.YtfcaemjklnelhaaGreatDoorL2
import Derived.StillTail
import Derived.OrdersHeld
set_option linter.all false
namespace Go.Sx
open Go

def nothing : V := .at (.raw undef)

def eopE (tl : Tab) (H : Heap) (fr : Fr) (op : Op) : Option (V × Heap × Bool) :=
  match op with
  | .alloc t => match eAlloc H tl t with | some (v, H') => some (v, H', true) | none => none
  | .box t x => match eBox H t (ev fr x) with | some (v, H') => some (v, H', true) | none => none
  | .buildSlice t n ⟨ps⟩ => match eBuild H tl t n (ps.map fun x => (x.1, ev fr x.2)) with | some (v, H') => some (v, H', true) | none => none
  | .makeMap t none => match eMakeMap H tl t with | some (v, H') => some (v, H', true) | none => none
  | .store t p x => match eStore H tl t (ev fr p) (ev fr x) with | some (H', c) => some (nothing, H', c) | none => none
  | .mapUpdate t m k x => match eMapUpdate H tl t (ev fr m) (ev fr k) (ev fr x) with | some H' => some (nothing, H', true) | none => none
  | .call { callee := .builtin .append, args := ⟨[s, x]⟩, argTypes := ⟨[t, t2]⟩ } => match eAppend2 H tl t t2 (ev fr s) (ev fr x) with | some (v, H', c) => some (v, H', c) | none => none
  | .call { callee := .builtin .delete, args := ⟨[m, k]⟩, argTypes := ⟨t :: _⟩ } => match eDelete H tl t (ev fr m) (ev fr k) with | some H' => some (nothing, H', true) | none => none
  | .call { callee := .builtin .copy, args := ⟨[d, s]⟩, argTypes := ⟨[t, _]⟩ } => match eCopy H tl t (ev fr d) (ev fr s) with | some (v, H', c) => some (v, H', c) | none => none
  | .call { callee := .builtin .clear, args := ⟨[x]⟩, argTypes := ⟨[t]⟩ } => match eClear H tl t (ev fr x) with | some (H', c) => some (nothing, H', c) | none => none
  | .makeSlice t l c => match eMake H tl t (ev fr l) (ev fr c) with | some (v, H', b) => some (v, H', b) | none => none
  | _ => none

section
variable {P : Program} {E : Nat → Prop} {w0 w : World} {ρ : List Pl} {H : Heap} {n : Nat} {fr : Fr} {a : Act}

/-- What an operation that turns memory does. -/
def XOk (P : Program) (E : Nat → Prop) (w0 w : World) (ρ : List Pl) (H : Heap) (o : Oper) (a : Act) (v : V) (H' : Heap) : Prop :=
  ∃ u w' ρ', ((execOp a.eval o).run P w = .ok (.value u) w' ∨ ((execOp a.eval o).run P w = .ok .skip w' ∧ u = undef)) ∧ Ext ρ H ρ' H' ∧ HRel E w0 ρ' H' w' ∧ VRel ρ' H' v u

theorem eopE_ok {tl : Tab} (htl : TabOk P tl) (hr : HRel E w0 ρ H w) (hf : FRel n ρ H fr a) {o : Oper} {v : V} {H' : Heap} {c : Bool} (h : eopE tl H fr o.op = some (v, H', c)) (hc : c = true) : XOk P E w0 w ρ H o a v H' := by
  have val : ∀ {s : Sem Value}, execOp a.eval o = (do pure (.value (← s))) → EOk P E w0 w ρ H s v H' → XOk P E w0 w ρ H o a v H' := by
    rintro s he ⟨u, w', ρ', h1, h2, h3, h4⟩
    refine ⟨u, w', ρ', .inl ?_, h2, h3, h4⟩
    rw [he]; simp [h1]
  have unit : ∀ {s : Sem Unit} {w' : World}, execOp a.eval o = (do s; pure .skip) → s.run P w = .ok () w' → Ext ρ H ρ H' → HRel E w0 ρ H' w' → v = nothing → XOk P E w0 w ρ H o a v H' := by
    rintro s w' he h1 h2 h3 rfl
    refine ⟨undef, w', ρ, .inr ⟨?_, rfl⟩, h2, h3, rfl⟩
    rw [he]; simp [h1]
  unfold eopE at h
  split at h
  case h_1 t ho =>
    split at h
    · rename_i v' H1 hv; cases h; exact val (by unfold execOp; rw [ho]) (eAlloc_ok htl hr hv)
    · cases h
  case h_2 t x ho =>
    split at h
    · rename_i v' H1 hv; cases h; exact val (by unfold execOp; rw [ho]) (eBox_ok hr hv (ev_rel hf x))
    · cases h
  case h_3 t m ps ho =>
    split at h
    · rename_i v' H1 hv
      cases h
      have hargs : VsRel ρ H ((ps.map fun x => (x.1, ev fr x.2)).map (·.2)) (ps.map fun x => a.eval x.2) := by
        have := evs_rel hf (ps.map (·.2))
        simpa [List.map_map, Function.comp_def] using this
      have e : (Array.map (fun x : Nat × Operand => (x.1, a.eval x.2)) ⟨ps⟩) = (((ps.map fun x => (x.1, ev fr x.2)).map (·.1)).zip (ps.map fun x => a.eval x.2)).toArray := by
        apply Array.ext'
        simp only [List.map_toArray]
        clear hargs hv ho val unit
        induction ps with
        | nil => rfl
        | cons p ps ih => simp [ih]
      have hb := eBuild_ok htl hr hv hargs
      rw [← e] at hb
      exact val (by unfold execOp; rw [ho]) hb
    · cases h
  case h_4 t ho =>
    split at h
    · rename_i v' H1 hv; cases h; exact val (by unfold execOp; rw [ho]; rfl) (eMakeMap_ok htl hr hv)
    · cases h
  case h_5 t p x ho =>
    split at h
    · rename_i H1 c' hv
      cases h
      obtain ⟨w', h1, h2, h3⟩ := eStore_ok htl hr hv hc (ev_rel hf p) (ev_rel hf x)
      exact unit (by unfold execOp; rw [ho]) h1 h2 h3 rfl
    · cases h
  case h_6 t m k x ho =>
    split at h
    · rename_i H1 hv
      cases h
      obtain ⟨w', h1, h2, h3⟩ := eMapUpdate_ok htl hr hv (ev_rel hf m) (ev_rel hf k) (ev_rel hf x)
      exact unit (by unfold execOp; rw [ho]) h1 h2 h3 rfl
    · cases h
  case h_7 s x t t2 ho =>
    split at h
    · rename_i v' H1 c' hv
      cases h
      exact val (by unfold execOp; rw [ho]; simp [resolve, invoke, builtin]) (eAppend2_ok (ty := o.type) htl hr hv hc (ev_rel hf s) (ev_rel hf x))
    · cases h
  case h_8 m k t ts ho =>
    split at h
    · rename_i H1 hv
      cases h
      obtain ⟨w', h1, h2, h3⟩ := eDelete_ok (ty := o.type) htl hr hv (ev_rel hf m) (ev_rel hf k) (t :: ts).toArray rfl
      refine val (s := Builtin.delete_ (t :: ts).toArray o.type #[a.eval m, a.eval k]) (by unfold execOp; rw [ho]; simp [resolve, invoke, builtin]) ⟨_, w', ρ, h1, h2, h3, rfl⟩
    · cases h
  case h_9 d s t t2 ho =>
    split at h
    · rename_i v' H1 c' hv
      cases h
      exact val (by unfold execOp; rw [ho]; simp [resolve, invoke, builtin]) (eCopy_ok (ty := o.type) (t2 := t2) htl hr hv hc (ev_rel hf d) (ev_rel hf s))
    · cases h
  case h_10 x t ho =>
    split at h
    · rename_i H1 c' hv
      cases h
      obtain ⟨w', h1, h2, h3⟩ := eClear_ok (ty := o.type) htl hr hv hc (ev_rel hf x)
      refine val (s := Builtin.clear_ #[t] o.type #[a.eval x]) (by unfold execOp; rw [ho]; simp [resolve, invoke, builtin]) ⟨_, w', ρ, h1, h2, h3, rfl⟩
    · cases h
  case h_11 t l c' ho =>
    split at h
    · rename_i v' H1 b hv
      cases h
      exact val (by unfold execOp; rw [ho]) (eMake_ok htl hr hv hc (ev_rel hf l) (ev_rel hf c'))
    · cases h
  case h_12 => cases h

/-- The state of a run: what the frame and the heap say. -/
structure St (pure : Bool) (E : Nat → Prop) (w0 ws : World) (n : Nat) (ρ0 : List Pl) (ρ : List Pl) (H : Heap) (fr : Fr) (a : Act) (w : World) : Prop where
  pre : ∀ (i : Nat) (p : Pl), ρ0[i]? = some p → ρ[i]? = some p
  frame : FRel n ρ H fr a
  heap : HRel E w0 ρ H w
  still : pure = true → ∃ k, w = ws.drewN k

theorem St.drewN {pure : Bool} {ws : World} {ρ0 : List Pl} (h : St pure E w0 ws n ρ0 ρ H fr a w) (k : Nat) : St pure E w0 ws n ρ0 ρ H fr a (w.drewN k) :=
  ⟨h.pre, h.frame, h.heap.drewN k, fun hp => let ⟨j, hj⟩ := h.still hp; ⟨j + k, by rw [hj, World.drewN_drewN]⟩⟩

def putFr (n : Nat) (fr : Fr) (d : Option Tmp) (v : V) : Option Fr :=
  match d with
  | none => some fr
  | some d => bif Nat.ble (d + 1) n then some ((d, v) :: fr) else none

theorem putFr_ok {fr' : Fr} {d : Option Tmp} {v : V} {u : Value} (h : putFr n fr d v = some fr') (hf : FRel n ρ H fr a) (hv : VRel ρ H v u) : FRel n ρ H fr' (a.put d u) := by
  unfold putFr at h
  split at h
  · cases h; exact hf
  · rename_i d
    cases hb : Nat.ble (d + 1) n with
    | false => rw [hb] at h; cases h
    | true => rw [hb] at h; cases h; exact hf.put (Nat.le_of_ble_eq_true hb) hv

end
end Go.Sx

namespace Go.Sx
open Go

section
variable {P : Program} {ops : Array Oper} {md : Region.Mode} {C : World → Prop}

def wpAnyM (P : Program) (md : Region.Mode) (ops : Array Oper) (C : World → Prop) (n : Nat) (L : Array Bool → Act → Prop) : Nat → Array Bool → Act → Prop
  | 0, listed, a => L listed a
  | f + 1, listed, a =>
    Region.ready md ops listed ≠ [] ∧ ∀ i ∈ Region.ready md ops listed, i < n ∧ qOp P ops C i (wpAnyM P md ops C n L f (listed.setIfInBounds i true)) a

theorem wpAny_of_headM {n g : Nat} {L : Array Bool → Act → Prop} {Q' : Exit → Act → World → Prop} (hL : ∀ listed a w, C w → L listed a → wpAny P md ops Q' g listed a w) :
    ∀ (f : Nat) (listed : Array Bool) (a : Act) (w : World), C w → wpAnyM P md ops C n L f listed a → wpAny P md ops Q' (f + g) listed a w
  | 0, listed, a, w, hC, h => by rw [Nat.zero_add]; exact hL _ _ _ hC h
  | f + 1, listed, a, w, hC, h => by
    rw [show f + 1 + g = (f + g) + 1 by omega]
    exact ⟨fun h0 => absurd h0 h.1, fun i hi => wpOp_of_qOp hC (fun a' w' hC' h' => wpAny_of_headM hL f _ a' w' hC' h') (h.2 i hi).2⟩

theorem wpAnyM_first {n i : Nat} {oi : Oper} {v : Value} {L : Array Bool → Act → Prop} (hi : ops[i]? = some oi) (hsel : ∀ (j : Nat) (o : Oper) cs b, ops[j]? = some o → o.op ≠ .select cs b)
    (hs : Region.sinkB md ops n = true) (hc : Region.chainB md ops n = true) (hn : n < ops.size) (hin : i < n)
    (hdone : ∀ listed a, L listed a → ∀ j ∈ Region.ready md ops listed, n ≤ j) :
    ∀ (f : Nat) (listed : Array Bool) (a : Act), HeadInv md ops n listed →
      (∀ j oj, ops[j]? = some oj → j ≠ i → listed.getD j true = false → (∀ e ∈ oj.after, Region.binds md e = true → e.on ≠ i) → oi.apart ops oj = true) →
      i ∈ Region.ready md ops listed → YieldsIn P ops C oi v a →
      wpAnyM P md ops C n L f (listed.setIfInBounds i true) (a.put oi.dst v) → wpAnyM P md ops C n L (f + 1) listed a := by
  intro f
  induction f with
  | zero =>
    intro listed a inv _ hr hy H
    have hun := (mem_ready.1 hr).1
    refine ⟨fun h => (by rw [h] at hr; cases hr), fun j hj => ?_⟩
    have hjn : j < n := by
      rcases Nat.lt_or_ge j n with h | h
      · exact h
      · exact absurd hj (tail_waits hs hc hn inv _ i rfl hin hun j h)
    refine ⟨hjn, ?_⟩
    by_cases hji : j = i
    · subst hji; exact hy.qOp hi H
    · have := hdone _ _ H j (ready_mono hj hji)
      omega
  | succ f ih =>
    intro listed a inv hfree hr hy H
    have hun := (mem_ready.1 hr).1
    refine ⟨fun h => (by rw [h] at hr; cases hr), fun j hj => ?_⟩
    have hjn : j < n := by
      rcases Nat.lt_or_ge j n with h | h
      · exact h
      · exact absurd hj (tail_waits hs hc hn inv _ i rfl hin hun j h)
    refine ⟨hjn, ?_⟩
    by_cases hji : j = i
    · subst hji; exact hy.qOp hi H
    · have h1 := (H.2 j (ready_mono hj hji)).2
      obtain ⟨hjun, oj, hoj, hall⟩ := mem_ready.1 hj
      have hnot : ∀ e ∈ oj.after, Region.binds md e = true → e.on ≠ i := fun e he hb heq => by
        have h1 := hall e he hb
        rw [heq, getD_both hun] at h1
        cases h1
      have h2 := qOp_put hoj (hfree j oj hoj hji hjun hnot) (fun cs b => hsel i oi cs b hi) (fun cs b => hsel j oj cs b hoj) hy h1
      have hfree' : ∀ k ok, ops[k]? = some ok → k ≠ i → (listed.setIfInBounds j true).getD k true = false →
          (∀ e ∈ ok.after, Region.binds md e = true → e.on ≠ i) → oi.apart ops ok = true := fun k ok hk hki hun hno => by
        refine hfree k ok hk hki ?_ hno
        by_cases hjk : j = k
        · subst hjk; exact hjun
        · rw [getD_set_ne true hjk] at hun; exact hun
      refine qOp_mono (fun a' h3 => ih (listed.setIfInBounds j true) a' (inv.set hj hjn) hfree' (ready_mono hr (Ne.symm hji)) h3.1 ?_) h2
      rw [Array.setIfInBounds_comm _ _ hji]
      exact h3.2

theorem wpAnyM_lex {n g : Nat} {Lq : Act → Prop} (hsel : Region.noSelect ops = true) (hs : Region.sinkB md ops n = true) (hc : Region.chainB md ops n = true) (hn : n < ops.size) :
    ∀ (l : List Oper) (k : Nat) (listed : Array Bool) (a : Act), (∀ j, j < l.length → l[j]? = ops[k + j]?) → k + l.length = n → HeadInv md ops n listed →
    Region.lexHead md ops g l.length k listed = true → wpQuiet P ops C Lq l a →
    wpAnyM P md ops C n (fun listed' a' => Region.seqB md ops g n listed' = true ∧ Lq a') l.length listed a
  | [], k, listed, a, _, hk, _, hB, h => by
    have : k = n := by simpa using hk
    subst this
    exact ⟨by simpa [Region.lexHead] using hB, h⟩
  | o :: l, k, listed, a, hl, hk, inv, hB, h => by
    have h0 : ops[k]? = some o := by simpa using (hl 0 (by simp)).symm
    simp only [List.length_cons, Region.lexHead, Bool.and_eq_true] at hB
    obtain ⟨⟨hr, hf⟩, hB'⟩ := hB
    have hkn : k < n := by simp only [List.length_cons] at hk; omega
    have hr' : k ∈ Region.ready md ops listed := by simpa using hr
    have hst : qOp P ops C k (wpQuiet P ops C Lq l) a := by unfold qOp; simp only [h0]; exact h
    obtain ⟨v, hy, hK⟩ := yieldsIn_of_qOp h0 hst
    exact wpAnyM_first h0 (Region.noSelect_spec hsel) hs hc hn hkn (fun listed' a' hL => seqB_ready hL.1) l.length listed a inv (Region.free_spec h0 hf) hr' hy
      (wpAnyM_lex hsel hs hc hn l (k + 1) _ _ (fun j hj => by have := hl (j + 1) (by simp; omega); simpa [Nat.add_assoc, Nat.add_comm 1 j] using this) (by simp only [List.length_cons] at hk; omega) (inv.set hr' hkn) hB' hK)

theorem any_quiet_tail {Q : Exit → Act → World → Prop} {a : Act} {w : World} (n : Nat) (hB : Region.lexTailB .any ops n = true) (hC : C w)
    (h : wpQuiet P ops C (fun a' => ∀ w', C w' → wpList P ops Q (ops.toList.drop n) a' w') (ops.toList.take n) a) : wpAny P .any ops Q ops.size (Array.replicate ops.size false) a w := by
  simp only [Region.lexTailB, Bool.and_eq_true, decide_eq_true_eq] at hB
  obtain ⟨⟨⟨⟨hsel, hn⟩, hs⟩, hc⟩, hlex⟩ := hB
  have htl : (ops.toList.take n).length = n := by simp; omega
  have hdl : (ops.toList.drop n).length = ops.size - n := by simp
  have inv0 : HeadInv .any ops n (Array.replicate ops.size false) :=
    ⟨by simp, fun j oj _ hl => (by rw [getD_replicate_false] at hl; cases hl), fun t _ ht => getD_in (by simpa using ht) (getD_replicate_false _ _)⟩
  have H := wpAnyM_lex (md := .any) (g := ops.size - n) hsel hs hc hn (ops.toList.take n) 0 _ a (fun j hj => by
    have hj' : j < n := by rw [htl] at hj; exact hj
    simp [hj']) (by simpa using htl) inv0 (by rw [htl]; exact hlex) h
  have := wpAny_of_headM (Q' := Q) (g := ops.size - n) (fun listed a' w' hC' hL => by
    have := wpAny_of_seq (md := .any) (Q' := Q) (ops.toList.drop n) n listed a' w' (fun j => by simp [List.getElem?_drop]) (by rw [hdl]; exact hL.1) (hL.2 w' hC')
    rwa [hdl] at this) _ _ _ _ hC H
  rw [htl, show n + (ops.size - n) = ops.size by omega] at this
  exact this

theorem wp_region_quiet_tail {id : Nat} {Q : Exit → Act → World → Prop} {a : Act} {w : World} (n : Nat) (hm : P.follows .mixedOrders = true) (hB : Region.lexTailB .any ops n = true) (hC : C { w with drawn := w.drawn + 1 })
    (h : wpQuiet P ops C (fun a' => ∀ w', C w' → wpList P ops Q (ops.toList.drop n) a' w') (ops.toList.take n) a) : (Code.region id ops true).wp P Q a w := by
  simp only [Region.lexTailB, Bool.and_eq_true, decide_eq_true_eq] at hB
  obtain ⟨⟨⟨⟨hsel, hn⟩, hs⟩, hc⟩, hlex⟩ := hB
  have htl : (ops.toList.take n).length = n := by simp; omega
  have hdl : (ops.toList.drop n).length = ops.size - n := by simp
  have inv0 : HeadInv .any ops n (Array.replicate ops.size false) :=
    ⟨by simp, fun j oj _ hl => (by rw [getD_replicate_false] at hl; cases hl), fun t _ ht => getD_in (by simpa using ht) (getD_replicate_false _ _)⟩
  have H := wpAnyM_lex (md := .any) (g := ops.size - n) hsel hs hc hn (ops.toList.take n) 0 _ a (fun j hj => by
    have hj' : j < n := by rw [htl] at hj; exact hj
    simp [hj']) (by simpa using htl) inv0 (by rw [htl]; exact hlex) h
  refine wp_region_any hm ?_
  have := wpAny_of_headM (Q' := Q) (g := ops.size - n) (fun listed a' w' hC' hL => by
    have := wpAny_of_seq (md := .any) (Q' := Q) (ops.toList.drop n) n listed a' w' (fun j => by simp [List.getElem?_drop]) (by rw [hdl]; exact hL.1) (hL.2 w' hC')
    rwa [hdl] at this) _ _ _ _ hC H
  rw [htl, show n + (ops.size - n) = ops.size by omega] at this
  exact this
end
end Go.Sx

namespace Go.Sx
open Go

section
variable {P : Program} {ops : Array Oper} {md : Region.Mode} {S : Nat → World → Prop} {T : World → Prop} {needs : Array Bool → Nat → Nat → Bool} {Qn : Act → World → Prop}

def onlyN (Qn : Act → World → Prop) : Exit → Act → World → Prop := fun e a w => e = .normal ∧ Qn a w
def wpAnyS (P : Program) (md : Region.Mode) (ops : Array Oper) (Qn : Act → World → Prop) (S : Nat → World → Prop) (needs : Array Bool → Nat → Nat → Bool) : Nat → Array Bool → Act → World → Prop
  | 0, listed, a, w => Region.ready md ops listed = [] ∧ Qn a w
  | fuel + 1, listed, a, w =>
    (Region.ready md ops listed = [] → Qn a w) ∧
    ∀ i ∈ Region.ready md ops listed, wpOp P ops (onlyN Qn) i (fun a' w' => (∀ x, needs listed i x = true → S x w') ∧ ∀ m, wpAnyS P md ops Qn S needs fuel (listed.setIfInBounds i true) a' (w'.drewN m)) a w

theorem wpAny_of_S : ∀ (fuel : Nat) (listed : Array Bool) (a : Act) (w : World), wpAnyS P md ops Qn S needs fuel listed a w → wpAny P md ops (onlyN Qn) fuel listed a w
  | 0, _, _, _, h => ⟨h.1, rfl, h.2⟩
  | fuel + 1, _, _, _, h => ⟨fun h0 => ⟨rfl, h.1 h0⟩, fun i hi => wpOp_mono (fun a' w' h' => wpAny_of_S fuel _ a' w' (by simpa [World.drewN_zero] using h'.2 0)) (h.2 i hi)⟩

/-- In every world of S the operation gives v, by itself or by a function that it calls; only draws are used up. -/
def QuietIf (P : Program) (ops : Array Oper) (S : World → Prop) (o : Oper) (v : Value) (a : Act) : Prop :=
  (Region.wanted o (yielded ops a.tmps) = true ∧ ∀ w, S w → (execOp a.eval o).run P w = .ok (.value v) w ∨
    ∃ f args, (execOp a.eval o).run P w = .ok (.enter f args) w ∧ Calls P f args w (fun e w' => e = .returned v ∧ ∃ k, w' = w.drewN k)) ∨
  (Region.wanted o (yielded ops a.tmps) = false ∧ v = undef)
theorem QuietIf.of_same {o : Oper} {v : Value} {a a' : Act} (hy : QuietIf P ops T o v a) (he : execOp a'.eval o = execOp a.eval o)
    (hw : Region.wanted o (yielded ops a'.tmps) = Region.wanted o (yielded ops a.tmps)) : QuietIf P ops T o v a' := by
  unfold QuietIf at *
  rw [he, hw]
  exact hy
theorem QuietIf.wpOp {i : Nat} {o : Oper} {v : Value} {a : Act} {Q : Exit → Act → World → Prop} (hi : ops[i]? = some o) (hy : QuietIf P ops T o v a)
    {K : Act → World → Prop} {w : World} (hS : T w) (h : ∀ k, K (a.put o.dst v) (w.drewN k)) : wpOp P ops Q i K a w := by
  have h0 := h 0
  rw [World.drewN_zero] at h0
  unfold Go.wpOp
  rw [hi]
  rcases hy with ⟨hw, hv⟩ | ⟨hw, rfl⟩
  · simp only [hw, if_true]
    refine .inl ?_
    unfold Oper.wp
    rcases hv w hS with hr | ⟨f, args, hr, hc⟩
    · rw [hr]; exact h0
    · rw [hr]
      refine Calls.mono hc ?_
      rintro e w' ⟨rfl, k, rfl⟩
      exact h k
  · simp only [hw, Bool.false_eq_true, if_false]; exact h0

/-- A value that is put early is put late. -/
theorem wpOp_late {j : Nat} {oi oj : Oper} {v : Value} (hj : ops[j]? = some oj) (hap : oi.apart ops oj = true) (hsi : ∀ cs b, oi.op ≠ .select cs b) (hsj : ∀ cs b, oj.op ≠ .select cs b)
    {K : Act → World → Prop} {a : Act} {w : World} (h : wpOp P ops (onlyN Qn) j K (a.put oi.dst v) w) :
    wpOp P ops (onlyN Qn) j (fun a' w' => (execOp a'.eval oi = execOp a.eval oi ∧ Region.wanted oi (yielded ops a'.tmps) = Region.wanted oi (yielded ops a.tmps)) ∧ K (a'.put oi.dst v) w') a w := by
  obtain ⟨ha, hb, hc⟩ := Oper.apart_spec hap
  have same : ∀ (u : Value), execOp (a.put oj.dst u).eval oi = execOp a.eval oi ∧ Region.wanted oi (yielded ops (a.put oj.dst u).tmps) = Region.wanted oi (yielded ops a.tmps) := fun u =>
    ⟨execOp_put oi hsi a oj.dst u hc, wanted_put oi a oj.dst u hc⟩
  have he : execOp (a.put oi.dst v).eval oj = execOp a.eval oj := execOp_put oj hsj a oi.dst v ha
  have hcm : ∀ (u : Value) (w' : World), K ((a.put oi.dst v).put oj.dst u) w' → K ((a.put oj.dst u).put oi.dst v) w' := fun u w' h => by rw [← Act.put_comm a v u hb]; exact h
  unfold wpOp at h ⊢
  rw [hj] at h ⊢
  simp only [wanted_put oj a oi.dst v ha] at h ⊢
  cases hw : Region.wanted oj (yielded ops a.tmps) with
  | false =>
    rw [hw] at h
    simp only [Bool.false_eq_true, if_false] at h ⊢
    exact ⟨same _, hcm _ _ h⟩
  | true =>
    rw [hw] at h
    simp only [if_true] at h ⊢
    rcases h with h | ⟨hasks, hlets⟩
    · refine .inl ?_
      unfold Oper.wp at h ⊢
      rw [he] at h
      cases hr : (execOp a.eval oj).run P w with
      | ok nx w1 =>
        rw [hr] at h
        cases nx with
        | value u => exact ⟨same u, hcm u _ h⟩
        | skip => exact ⟨same _, hcm _ _ h⟩
        | defer d =>
          simp only [Oper.upon] at h ⊢
          refine ⟨⟨execOp_put oi hsi { a with defers := d :: a.defers } oj.dst undef hc, wanted_put oi { a with defers := d :: a.defers } oj.dst undef hc⟩, ?_⟩
          rw [← Act.put_comm _ v undef hb, ← Act.put_defers]
          exact h
        | enter f args =>
          refine Calls.mono h fun e w2 h2 => ?_
          cases e with
          | returned u => exact ⟨same u, hcm u _ h2⟩
          | panicked c => cases h2.1
          | outgrown => exact h2
        | row r args => exact Rows.mono h fun u w2 h2 => ⟨same u, hcm u _ h2⟩
        | _ => simp only [Oper.upon] at h ⊢
      | halt x w1 =>
        rw [hr] at h
        cases x with
        | panic u => cases h.1
        | _ => simp only [Oper.upon] at h ⊢
    · refine .inr ⟨?_, hlets⟩
      unfold Oper.asks at hasks ⊢
      rw [he] at hasks
      exact hasks

theorem wpAnyS_first {i : Nat} {oi : Oper} {v : Value} (hi : ops[i]? = some oi) (hsel : ∀ (j : Nat) (o : Oper) cs b, ops[j]? = some o → o.op ≠ .select cs b) (hSd : ∀ x w k, S x w → S x (w.drewN k))
    {clr : Array Bool → Prop} (hstep : ∀ (listed : Array Bool) (j : Nat) (oj : Oper), ops[j]? = some oj → (∀ e ∈ oj.after, Region.binds md e = true → e.on ≠ i) → clr listed → clr (listed.setIfInBounds j true))
    (hneed : (∀ w, S i w) ∨ ∀ (listed : Array Bool) (j : Nat) (oj : Oper), ops[j]? = some oj → (∀ e ∈ oj.after, Region.binds md e = true → e.on ≠ i) → clr listed → needs listed j i = true)
    (hE : ∀ (listed : Array Bool) (j x : Nat), needs (listed.setIfInBounds i true) j x = needs listed j x)
    (hswap : ∀ (listed : Array Bool) (j x : Nat), j < listed.size → needs (listed.setIfInBounds j true) i x = true → needs listed j x = true) :
    ∀ (fuel : Nat) (listed : Array Bool) (a : Act) (w : World),
      (∀ j oj, ops[j]? = some oj → j ≠ i → listed.getD j true = false → (∀ e ∈ oj.after, Region.binds md e = true → e.on ≠ i) → oi.apart ops oj = true) →
      clr listed → i ∈ Region.ready md ops listed → QuietIf P ops (S i) oi v a → S i w → (∀ x, needs listed i x = true → S x w) →
      (∀ k, wpAnyS P md ops Qn S needs fuel (listed.setIfInBounds i true) (a.put oi.dst v) (w.drewN k)) → wpAnyS P md ops Qn S needs (fuel + 1) listed a w := by
  have take : ∀ {fuel : Nat} {listed : Array Bool} {a : Act} {w : World}, QuietIf P ops (S i) oi v a → S i w → (∀ x, needs listed i x = true → S x w) → (∀ k, wpAnyS P md ops Qn S needs fuel (listed.setIfInBounds i true) (a.put oi.dst v) (w.drewN k)) →
      wpOp P ops (onlyN Qn) i (fun a' w' => (∀ x, needs listed i x = true → S x w') ∧ ∀ m, wpAnyS P md ops Qn S needs fuel (listed.setIfInBounds i true) a' (w'.drewN m)) a w := fun hy hS hN H =>
    hy.wpOp hi hS fun k => ⟨fun x hx => hSd _ _ _ (hN x hx), fun m => by rw [World.drewN_drewN]; exact H _⟩
  intro fuel
  induction fuel with
  | zero =>
    intro listed a w _ _ hr hy hS hN H
    refine ⟨fun h => (by rw [h] at hr; cases hr), fun j hj => ?_⟩
    by_cases hji : j = i
    · subst hji; exact take hy hS hN H
    · have := ready_mono hj hji
      rw [(H 0).1] at this
      cases this
  | succ fuel ih =>
    intro listed a w hfree hcl hr hy hS hN H
    refine ⟨fun h => (by rw [h] at hr; cases hr), fun j hj => ?_⟩
    by_cases hji : j = i
    · subst hji; exact take hy hS hN H
    · have h1 := (H 0).2 j (ready_mono hj hji)
      rw [World.drewN_zero] at h1
      obtain ⟨hjun, oj, hoj, hall⟩ := mem_ready.1 hj
      have hjlt : j < listed.size := by
        rcases Nat.lt_or_ge j listed.size with h' | h'
        · exact h'
        · simp [Array.getElem?_eq_none h'] at hjun
      have hnot : ∀ e ∈ oj.after, Region.binds md e = true → e.on ≠ i := fun e he hb heq => by
        have h1 := hall e he hb
        have h0 := (mem_ready.1 hr).1
        rw [heq] at h1
        rcases Nat.lt_or_ge i listed.size with h' | h'
        · simp [h'] at h0 h1; rw [h0] at h1; cases h1
        · simp [Array.getElem?_eq_none h'] at h1
      have h2 := wpOp_late hoj (hfree j oj hoj hji hjun hnot) (fun cs b => hsel i oi cs b hi) (fun cs b => hsel j oj cs b hoj) h1
      have hfree' : ∀ k ok, ops[k]? = some ok → k ≠ i → (listed.setIfInBounds j true).getD k true = false →
          (∀ e ∈ ok.after, Region.binds md e = true → e.on ≠ i) → oi.apart ops ok = true := fun k ok hk hki hun hno => by
        refine hfree k ok hk hki ?_ hno
        by_cases hjk : j = k
        · subst hjk; exact hjun
        · rw [getD_set_ne true hjk] at hun; exact hun
      have hcl' := hstep listed j oj hoj hnot hcl
      refine wpOp_mono (fun a' w' h3 => ?_) h2
      have hS' : S i w' := by
        rcases hneed with hn | hn
        · exact hn w'
        · exact h3.2.1 i (by rw [hE]; exact hn listed j oj hoj hnot hcl)
      refine ⟨fun x hx => h3.2.1 x (by rw [hE]; exact hx), fun m => ih (listed.setIfInBounds j true) a' (w'.drewN m) hfree' hcl' (ready_mono hr (Ne.symm hji)) (hy.of_same h3.1.1 h3.1.2) (hSd _ _ _ hS')
        (fun x hx => hSd _ _ _ (h3.2.1 x (by rw [hE]; exact hswap listed j x hjlt hx))) fun k => ?_⟩
      rw [Array.setIfInBounds_comm _ _ hji, World.drewN_drewN]
      exact h3.2.2 _

theorem wpAnyS_one {k fuel : Nat} {listed : Array Bool} {a : Act} {w : World} (hr : Region.ready md ops listed = [k])
    (h : wpOp P ops (onlyN Qn) k (fun a' w' => (∀ x, needs listed k x = true → S x w') ∧ ∀ m, wpAnyS P md ops Qn S needs fuel (listed.setIfInBounds k true) a' (w'.drewN m)) a w) : wpAnyS P md ops Qn S needs (fuel + 1) listed a w :=
  ⟨fun h0 => (by rw [hr] at h0; cases h0), fun i hi => by
    rw [hr] at hi
    have : i = k := by simpa using hi
    subst this; exact h⟩
theorem wpAnyS_done {listed : Array Bool} {a : Act} {w : World} (hr : Region.ready md ops listed = []) (h : Qn a w) : ∀ fuel, wpAnyS P md ops Qn S needs fuel listed a w
  | 0 => ⟨hr, h⟩
  | _ + 1 => ⟨fun _ => h, by rw [hr]; simp⟩

theorem wp_region_S {id : Nat} {Q : Exit → Act → World → Prop} {a : Act} {w : World} (hm : P.follows .mixedOrders = true) (hQ : ∀ a w, Qn a w → Q .normal a w)
    (h : wpAnyS P .any ops Qn S needs ops.size (Array.replicate ops.size false) a { w with drawn := w.drawn + 1 }) : (Code.region id ops true).wp P Q a w :=
  wp_mono (wp_region_any hm (wpAny_of_S _ _ _ _ h)) fun e a w h => by obtain ⟨rfl, h⟩ := h; exact hQ a w h

/-- Does operation j wait for operation i? -/
def waitsB (o : Oper) (i : Nat) : Bool := o.after.any fun e => Region.binds .any e && e.on == i
/-- No operation that writes and waits for x has been listed. -/
def clearB (ops : Array Oper) (fl : Nat → Bool) (listed : Array Bool) (x : Nat) : Bool :=
  (List.range ops.size).all fun k => !(listed.getD k false) || fl k || (match ops[k]? with | some o => !(waitsB o x) | none => true)
/-- What reading x leans on is to stay as it is under operation j. -/
def needF (ops : Array Oper) (fl ln : Nat → Bool) (listed : Array Bool) (j x : Nat) : Bool :=
  (fl x && ln x) && (fl j || (match ops[j]? with | some o => !(waitsB o x) | none => true)) && clearB ops fl listed x
def needL (ops : Array Oper) (fl ln : Nat → Bool) (listed : Array Bool) (j : Nat) : List Nat := (List.range ops.size).filter (needF ops fl ln listed j)
theorem waitsB_no {o : Oper} {i : Nat} : waitsB o i = false ↔ ∀ e ∈ o.after, Region.binds .any e = true → e.on ≠ i := by
  unfold waitsB
  rw [Bool.eq_false_iff]
  constructor
  · intro h e he hb heq
    exact h (Array.any_eq_true'.2 ⟨e, he, by simp [hb, heq]⟩)
  · intro hno h
    obtain ⟨e, he, hb⟩ := Array.any_eq_true'.1 h
    simp only [Bool.and_eq_true, beq_iff_eq] at hb
    exact hno e he hb.1 hb.2
theorem clearB_iff {fl : Nat → Bool} {listed : Array Bool} {x : Nat} : clearB ops fl listed x = true ↔ ∀ (k : Nat) (o : Oper), ops[k]? = some o → listed.getD k false = true → fl k = false → waitsB o x = false := by
  unfold clearB
  rw [List.all_eq_true]
  constructor
  · intro h k o ho hl hf
    have := h k (List.mem_range.2 (Array.getElem?_eq_some_iff.1 ho).1)
    rw [hl, hf, ho] at this
    simpa using this
  · intro h k hk
    rw [List.mem_range] at hk
    have ho : ops[k]? = some ops[k] := Array.getElem?_eq_getElem hk
    rw [ho]
    cases hl : listed.getD k false with
    | false => rfl
    | true =>
      cases hf : fl k with
      | true => simp
      | false => simp [h k _ ho hl hf]
theorem needF_fl {fl ln : Nat → Bool} {listed : Array Bool} {j x : Nat} (h : needF ops fl ln listed j x = true) : fl x = true ∧ clearB ops fl listed x = true ∧ ln x = true := by
  unfold needF at h
  simp only [Bool.and_eq_true] at h
  exact ⟨h.1.1.1, h.2, h.1.1.2⟩
theorem needF_need {fl ln : Nat → Bool} {i : Nat} (hi : fl i = true) (hl : ln i = true) (listed : Array Bool) (j : Nat) (oj : Oper) (hj : ops[j]? = some oj) (hno : ∀ e ∈ oj.after, Region.binds .any e = true → e.on ≠ i)
    (hcl : clearB ops fl listed i = true) : needF ops fl ln listed j i = true := by
  unfold needF
  rw [hi, hl, hj, hcl]
  simp [waitsB_no.2 hno]
theorem getD_set_ne' {l : Array Bool} {i j : Nat} (h : i ≠ j) (b d : Bool) : (l.setIfInBounds i b).getD j d = l.getD j d := by
  rw [Array.getD_eq_getD_getElem?, Array.getElem?_setIfInBounds_ne h, Array.getD_eq_getD_getElem?]
theorem clearB_fl {fl : Nat → Bool} {i : Nat} (hi : fl i = true) (listed : Array Bool) (x : Nat) : clearB ops fl (listed.setIfInBounds i true) x = clearB ops fl listed x := by
  rw [Bool.eq_iff_iff, clearB_iff, clearB_iff]
  constructor
  · intro h k o ho hl hf
    have hne : i ≠ k := fun e => by subst e; rw [hi] at hf; cases hf
    exact h k o ho (by rw [getD_set_ne' hne]; exact hl) hf
  · intro h k o ho hl hf
    have hne : i ≠ k := fun e => by subst e; rw [hi] at hf; cases hf
    exact h k o ho (by rw [getD_set_ne' hne] at hl; exact hl) hf
theorem clearB_set {fl : Nat → Bool} {j : Nat} {listed : Array Bool} {x : Nat} (h : clearB ops fl (listed.setIfInBounds j true) x = true) : clearB ops fl listed x = true := by
  rw [clearB_iff] at h ⊢
  intro k o ho hl hf
  refine h k o ho ?_ hf
  by_cases hjk : j = k
  · subst hjk
    rcases Nat.lt_or_ge j listed.size with h' | h'
    · rw [Array.getD_eq_getD_getElem?, Array.getElem?_setIfInBounds_self_of_lt h']; rfl
    · rw [Array.setIfInBounds_eq_of_size_le h']; exact hl
  · rw [getD_set_ne' hjk]; exact hl
theorem clearB_step {fl : Nat → Bool} {i : Nat} (listed : Array Bool) (j : Nat) (oj : Oper) (hj : ops[j]? = some oj) (hno : ∀ e ∈ oj.after, Region.binds .any e = true → e.on ≠ i) (hcl : clearB ops fl listed i = true) : clearB ops fl (listed.setIfInBounds j true) i = true := by
  rw [clearB_iff] at hcl ⊢
  intro k o ho hl hf
  by_cases hjk : j = k
  · subst hjk
    rw [hj] at ho; cases ho
    exact waitsB_no.2 hno
  · exact hcl k o ho (by rw [getD_set_ne' hjk] at hl; exact hl) hf
theorem needF_set {fl ln : Nat → Bool} {j : Nat} {listed : Array Bool} {x : Nat} (hj : j < listed.size) (hx : fl x = true) (hl : ln x = true) (h : clearB ops fl (listed.setIfInBounds j true) x = true) : needF ops fl ln listed j x = true := by
  unfold needF
  rw [hx, hl, clearB_set h]
  cases hf : fl j with
  | true => rfl
  | false =>
    cases ho : ops[j]? with
    | none => rfl
    | some o =>
      have := clearB_iff.1 h j o ho (by rw [Array.getD_eq_getD_getElem?, Array.getElem?_setIfInBounds_self_of_lt hj]; rfl) hf
      simp [this]
theorem needF_E {fl ln : Nat → Bool} {i : Nat} (hi : fl i = true) (listed : Array Bool) (j x : Nat) : needF ops fl ln (listed.setIfInBounds i true) j x = needF ops fl ln listed j x := by
  unfold needF
  rw [clearB_fl hi]
end
end Go.Sx

namespace Go.Sx
open Go

section
variable {P : Program} {E : Nat → Prop} {w0 w : World} {ρ : List Pl} {H : Heap} {n : Nat} {fr : Fr} {a : Act}

theorem findIdx_born {es : Array MapEntry} {i : Nat} (hi : i < es.size) (hu : ∀ (j : Nat) (e : MapEntry), es[j]? = some e → e.born = es[i].born → j = i) :
    es.findIdx? (fun e => (e.born : Int) == ((es[i].born : Nat) : Int)) = some i := by
  rw [Array.findIdx?_eq_some_iff_getElem]
  refine ⟨hi, by simp, fun j hj => ?_⟩
  have hjs : j < es.size := by omega
  intro h
  have h' : (es[j].born : Int) = es[i].born := by simpa using h
  have := hu j es[j] (Array.getElem?_eq_getElem hjs) (by exact_mod_cast h')
  omega

theorem setSet {xs : Array Obj} {i : Nat} {x y : Obj} : (xs.setIfInBounds i x).setIfInBounds i y = xs.setIfInBounds i y := by
  apply Array.ext_getElem?
  intro j
  simp only [Array.getElem?_setIfInBounds, Array.size_setIfInBounds]
  split <;> rfl
theorem push_put {es : Array MapEntry} {k z v : Value} {c : Nat} : (es.push { key := k, val := z, born := c }).modify es.size (fun e => { e with val := v }) = es.push { key := k, val := v, born := c } := by
  apply Array.ext
  · simp
  · intro i h1 h2
    simp only [Array.getElem_modify, Array.getElem_push]
    by_cases hi : i < es.size
    · simp [hi]; omega
    · have : i = es.size := by simp at h2; omega
      subst this; simp

theorem modify_modify {es : Array MapEntry} {i : Nat} {k v : Value} : (es.modify i fun e => { e with key := k }).modify i (fun e => { e with val := v }) = es.modify i fun e => { e with key := k, val := v } := by
  apply Array.ext
  · simp
  · intro j h1 h2
    simp only [Array.getElem_modify]
    split <;> rfl

/-- The entry and its store: what m[k] = v does. -/
theorem entryStore_run {t kt et t2 : TypeId} {kk : IntKind} {k : Int} {es : Array MapEntry} {clock b : Nat} {ks : List Int} {val zero : Value} {w' : World}
    (hu : P.underlying t = some (.map kt et)) (hk : P.underlying kt = some (.int kk)) (hz : ∀ w : World, (zeroValue et).run P w = .ok zero w) (hb : w.heap[b]? = some (.map es clock))
    (hl : es.size = ks.length) (hkeys : ∀ (i : Nat) (e : MapEntry), es[i]? = some e → e.key = .int kk (ks.getD i 0))
    (hborn : ∀ (i : Nat) (e : MapEntry), es[i]? = some e → e.born < clock) (hinj : ∀ (i j : Nat) (e f : MapEntry), es[i]? = some e → es[j]? = some f → e.born = f.born → i = j)
    (h : (Instr.mapUpdate t (.map (some b)) (.int kk k) val).run P w = .ok () w') :
    ∃ v0 st w1, (Instr.mapEntry t (.map (some b)) (.int kk k)).run P w = .ok (.tuple #[v0, goInt st]) w1 ∧ ∀ m, (Instr.entryStore t2 (.map (some b)) (goInt st) val).run P (w1.drewN m) = .ok () (w'.drewN m) := by
  rw [update_run hu hk hb hl hkeys] at h
  have hlt : b < w.heap.size := (Array.getElem?_eq_some_iff.1 hb).1
  have hg : (getObj b).run P w = .ok (.map es clock) w := by simp [getObj, Sem.run, hb]
  have hset : ∀ o, (setObj b o).run P w = .ok () { w with heap := w.heap.setIfInBounds b o } := fun o => by simp [setObj, Sem.run, hb]
  have hck1 : ∀ x d, (Instr.checkKey x (d + 1) kt (.int kk k)).run P w = .ok () w := fun x d => by simp [Instr.checkKey, run_underlying hk]
  have hck : (Instr.checkKey false 10000 kt (.int kk k)).run P w = .ok () w := hck1 _ 9999
  have hg2 : ∀ (W : World) (es : Array MapEntry) (c : Nat), W.heap[b]? = some (.map es c) → (getObj b).run P W = .ok (.map es c) W := fun W es c h => by simp [getObj, Sem.run, h]
  have hset2 : ∀ (W : World) (es : Array MapEntry) (c : Nat) (o : Obj), W.heap[b]? = some (.map es c) → (setObj b o).run P W = .ok () { W with heap := W.heap.setIfInBounds b o } := fun W es c o h => by simp [setObj, Sem.run, h]
  have store : ∀ (es1 : Array MapEntry) (c st : Nat) (i m : Nat), es1.findIdx? (fun e => (e.born : Int) == (st : Int)) = some i →
      (Instr.entryStore t2 (.map (some b)) (goInt st) val).run P { w.drewN m with heap := w.heap.setIfInBounds b (.map es1 c) } = .ok () { w.drewN m with heap := w.heap.setIfInBounds b (.map (es1.modify i fun e => { e with val }) c) } := by
    intro es1 c st i m hi
    have hat : ({ w.drewN m with heap := w.heap.setIfInBounds b (.map es1 c) } : World).heap[b]? = some (.map es1 c) := by simp [hlt]
    simp only [Instr.entryStore, Sem.run_bind, hg2 _ _ _ hat, Result.andThen_ok, goInt, asInt, asIntOf, Sem.run_pure, hi, hset2 _ _ _ _ hat]
    rw [setSet]
  rcases findNow_idx (kk := kk) (n := k) es.toList ks 0 (by simpa using hl) (fun i e he => hkeys i e (by simpa using he)) with ⟨h1, h2⟩ | ⟨h1, h3, h4, v, h2⟩
  · have hfk : (Instr.findKey kt (.int kk k) es.toList).run P w = .ok none w := by simp [Instr.findKey, run_underlying hk, h2]
    refine ⟨zero, clock, { w with heap := w.heap.setIfInBounds b (.map (es.push { key := .int kk k, val := zero, born := clock }) (clock + 1)) }, ?_, ?_⟩
    · simp only [Instr.mapEntry, Sem.run_bind, run_underlying hu, Result.andThen_ok, hg, hck, hfk, hset, hz, Sem.run_pure]
    · rw [h1] at h
      simp only [cond_false] at h
      have hf := findIdx_born (es := es.push { key := .int kk k, val := zero, born := clock }) (i := es.size) (by simp) (fun j e he hb' => by
        rw [Array.getElem?_push] at he
        split at he
        · rename_i hj; exact hj
        · have := hborn j e he
          simp at hb'; omega)
      simp only [Array.getElem_push_eq] at hf
      cases h
      intro m
      refine (store _ _ _ _ m hf).trans ?_
      rw [push_put]
      rfl
  · have hfk : (Instr.findKey kt (.int kk k) es.toList).run P w = .ok (some (0 + midx ks k, v)) w := by simp [Instr.findKey, run_underlying hk, h2]
    have hmt : midx ks k < es.size := by omega
    have hkey : ((es[midx ks k]?).map (·.key)).getD (.int kk k) = .int kk k := by
      rw [Array.getElem?_eq_getElem hmt]
      simp only [Option.map_some, Option.getD_some]
      rw [hkeys _ _ (Array.getElem?_eq_getElem hmt), h4]
    have hbn : ((es[midx ks k]?).map (fun x => (x.born : Int))).getD 0 = ((es[midx ks k].born : Nat) : Int) := by
      rw [Array.getElem?_eq_getElem hmt]; rfl
    have hst1 : ∀ d, Instr.sameBits d (.int kk k) (.int kk k) = true := fun d => by simp [Instr.sameBits]
    have hst : (Instr.keyThatStays (.int kk k) (.int kk k)).run P w = .ok (.int kk k) w := by
      simp only [Instr.keyThatStays, hst1, if_true]; rfl
    refine ⟨v, es[midx ks k].born, { w with heap := w.heap.setIfInBounds b (.map (es.modify (midx ks k) fun e => { e with key := .int kk k }) clock) }, ?_, ?_⟩
    · simp only [Instr.mapEntry, Sem.run_bind, run_underlying hu, Result.andThen_ok, hg, hck, hfk, Nat.zero_add, hkey, hst, hset, hbn, Sem.run_pure]
    · rw [h1] at h
      simp only [cond_true] at h
      have hf := findIdx_born (es := es.modify (midx ks k) fun e => { e with key := .int kk k }) (i := midx ks k) (by simpa using hmt) (fun j e he hb' => by
        have hj : j < es.size := by simpa using (Array.getElem?_eq_some_iff.1 he).1
        rw [Array.getElem?_modify] at he
        simp only [Array.getElem?_eq_getElem hj] at he
        have be : e.born = es[j].born := by
          split at he
          · simp only [Option.map_some, Option.some.injEq] at he; subst he; rfl
          · simp only [Option.some.injEq] at he; subst he; rfl
        simp only [Array.getElem_modify_self] at hb'
        exact hinj j (midx ks k) _ _ (Array.getElem?_eq_getElem hj) (Array.getElem?_eq_getElem hmt) (by rw [← be, hb']))
      simp only [Array.getElem_modify_self] at hf
      cases h
      intro m
      refine (store _ _ _ _ m hf).trans ?_
      rw [modify_modify]
      rfl

def eEntry (H : Heap) (tl : Tab) (t : TypeId) (m k x : V) : Option Heap :=
  match kd tl t, m with
  | some (.map _ et), .at (.map _) => match lk tl et with
    | some _ => eMapUpdate H tl t m k x
    | none => none
  | _, _ => none

theorem eEntry_ok {tl : Tab} (htl : TabOk P tl) (hr : HRel E w0 ρ H w) {t t2 : TypeId} {m k x : V} {a b c : Value} {H' : Heap} (h : eEntry H tl t m k x = some H') (hm : VRel ρ H m a) (hk : VRel ρ H k b) (hx : VRel ρ H x c) :
    ∃ v0 st w1 w', (Instr.mapEntry t a b).run P w = .ok (.tuple #[v0, goInt st]) w1 ∧ (∀ m, (Instr.entryStore t2 a (goInt st) c).run P (w1.drewN m) = .ok () (w'.drewN m)) ∧ Ext ρ H ρ H' ∧ HRel E w0 ρ H' w' := by
  unfold eEntry at h
  split at h
  · rename_i kt et id hti
    split at h
    · rename_i ti hl
      obtain ⟨zero, _, _, hz⟩ := (htl et ti hl).zero_run
      obtain ⟨w', h1, h2, h3⟩ := eMapUpdate_ok htl hr h hm hk hx
      have hu : P.underlying t = some (.map kt et) := kd_ok htl hti
      have key : ∃ kk nn ks col, k = .at (.raw (.int kk nn)) ∧ kd tl kt = some (.int kk) ∧ H[id]? = some (.map kk ks col) := by
        unfold eMapUpdate at h
        rw [hti] at h
        split at h
        · rename_i kt1 et1 id1 kk nn y e1 e2
          cases e1
          cases e2
          split at h
          · rename_i k1 k3 ks k4 l k5 z hkt hid
            cases hb : (decide (k1 = kk) && decide (k3 = kk) && decide (k4 = k5)) with
            | false => rw [hb] at h; cases h
            | true =>
              simp only [Bool.and_eq_true, decide_eq_true_eq] at hb
              obtain ⟨⟨e1, e2⟩, _⟩ := hb
              subst e1 e2
              exact ⟨_, _, _, _, rfl, hkt, hid⟩
          · rename_i k1 k3 ks l z hkt hid
            cases hb : (decide (k1 = kk) && decide (k3 = kk)) with
            | false => rw [hb] at h; cases h
            | true =>
              simp only [Bool.and_eq_true, decide_eq_true_eq] at hb
              obtain ⟨e1, e2⟩ := hb
              subst e1 e2
              exact ⟨_, _, _, _, rfl, hkt, hid⟩
          · rename_i k1 k3 ks l z hkt hid
            cases hb : (decide (k1 = kk) && decide (k3 = kk)) with
            | false => rw [hb] at h; cases h
            | true =>
              simp only [Bool.and_eq_true, decide_eq_true_eq] at hb
              obtain ⟨e1, e2⟩ := hb
              subst e1 e2
              exact ⟨_, _, _, _, rfl, hkt, hid⟩
          · cases h
        · cases h
      obtain ⟨kk, nn, ks, col, rfl, hkt, hid⟩ := key
      obtain ⟨p, hp, g1, g2, es, clock, g3, g4, g5, g6⟩ := hr.at hid
      have hm' : a = .map (some p.blk) := by
        rcases hm with hm | ⟨q, hq, hm⟩
        · rw [Gone, hid] at hm; cases hm
        · rw [hp] at hq; cases hq; exact hm
      subst hm'
      simp only [VRel, ARel] at hk
      subst hk
      obtain ⟨v0, st, w1, r1, r2⟩ := entryStore_run (t2 := t2) hu (kd_ok htl hkt) hz g3 g4 (fun i e he => (g5 i e he).1) (fun i e he => (g5 i e he).2.2) g6 h1
      exact ⟨v0, st, w1, w', r1, r2, h2, h3⟩
    · cases h
  · cases h
end

end Go.Sx

namespace Go.Sx
open Go

def mapI (f : Nat → AObj → AObj) : Nat → Heap → Heap
  | _, [] => []
  | i, o :: r => f i o :: mapI f (i + 1) r
theorem mapI_get {f : Nat → AObj → AObj} : ∀ {H : Heap} {n i : Nat}, (mapI f n H)[i]? = (H[i]?).map (f (n + i))
  | [], n, i => by simp [mapI]
  | o :: r, n, i => by
    match i with
    | 0 => simp [mapI]
    | i + 1 => simp only [mapI, List.getElem?_cons_succ, mapI_get]; congr 2; omega
theorem mapI_len {f : Nat → AObj → AObj} : ∀ {H : Heap} {n : Nat}, (mapI f n H).length = H.length
  | [], n => rfl
  | o :: r, n => by simp [mapI, mapI_len]
def idx : List Nat → Nat → Option Nat
  | [], _ => none
  | k :: ks, i => bif Nat.beq k i then some 0 else match idx ks i with | some j => some (j + 1) | none => none
theorem idx_get : ∀ {keep : List Nat} {i j : Nat}, idx keep i = some j → keep[j]? = some i
  | [], i, j, h => by simp [idx] at h
  | k :: ks, i, j, h => by
    simp only [idx] at h
    cases hb : Nat.beq k i with
    | true => rw [hb] at h; cases h; simp [Nat.eq_of_beq_eq_true hb]
    | false =>
      rw [hb] at h
      simp only [cond_false] at h
      split at h
      · rename_i j' hj; cases h; simpa using idx_get hj
      · cases h

def rnCaps (m : Nat → Option Nat) : List (Nat × Nat) → Option (List (Nat × Nat))
  | [] => some []
  | (i, o) :: r => match m i, rnCaps m r with | some j, some l => some ((j, o) :: l) | _, _ => none
def rnA (m : Nat → Option Nat) : A → A
  | .raw v => .raw v
  | .ptr i o => match m i with | some j => .ptr j o | none => .junk
  | .eptr i sz x f => match m i with | some j => .eptr j sz x f | none => .junk
  | .sl i sz off len => match m i with | some j => .sl j sz off len | none => .junk
  | .map i => match m i with | some j => .map j | none => .junk
  | .fn f caps => match rnCaps m caps with | some l => .fn f l | none => .junk
  | .iface t i o => match m i with | some j => .iface t j o | none => .junk
  | .junk => .junk
def rnCol (m : Nat → Option Nat) : Col → Col
  | .ats l => .ats (l.map (rnA m))
  | c => c
def rnO (m : Nat → Option Nat) : AObj → AObj
  | .dead => .dead
  | .cells t cs => .cells t (cs.map (rnA m))
  | .row e sz n cols => .row e sz n (cols.map (rnCol m))
  | .ro e sz n cols => .ro e sz n (cols.map (rnCol m))
  | .map k ks c => .map k ks (rnCol m c)
def rnW (m : Nat → Option Nat) : W → W
  | .at a => .at (rnA m a)
  | .agg as => .agg (as.map (rnA m))
def rnV (m : Nat → Option Nat) : V → V
  | .at a => .at (rnA m a)
  | .agg as => .agg (as.map (rnA m))
  | .tup xs => .tup (xs.map (rnW m))
def rnH (keep : List Nat) (H : Heap) : List Nat → Option Heap
  | [] => some []
  | i :: r => match H[i]?, rnH keep H r with | some o, some l => some (rnO (idx keep) o :: l) | _, _ => none
/-- The objects of these numbers, in this order. -/
def restrict (keep : List Nat) (H : Heap) : Option Heap := rnH keep H keep
def noDup : List Nat → Bool
  | [] => true
  | k :: ks => (match idx ks k with | some _ => false | none => true) && noDup ks

theorem idx_mem : ∀ {ks : List Nat} {k j : Nat}, ks[j]? = some k → idx ks k ≠ none
  | [], k, j, h => by simp at h
  | x :: ks, k, j, h => by
    simp only [idx]
    cases hb : Nat.beq x k with
    | true => simp
    | false =>
      simp only [cond_false]
      match j with
      | 0 => simp at h; subst h; simp at hb
      | j + 1 =>
        have := idx_mem (j := j) (by simpa using h)
        cases hi : idx ks k with
        | none => exact absurd hi this
        | some _ => simp
theorem noDup_ne : ∀ {ks : List Nat}, noDup ks = true → ∀ {i j a : Nat}, ks[i]? = some a → ks[j]? = some a → i = j
  | [], _, i, j, a, hi, _ => by simp at hi
  | k :: ks, h, i, j, a, hi, hj => by
    simp only [noDup, Bool.and_eq_true] at h
    match i, j with
    | 0, 0 => rfl
    | 0, j + 1 =>
      simp at hi hj
      subst hi
      have := idx_mem hj
      have h1 := h.1
      split at h1
      · cases h1
      · rename_i hn; exact absurd hn this
    | i + 1, 0 =>
      simp at hi hj
      subst hj
      have := idx_mem hi
      have h1 := h.1
      split at h1
      · cases h1
      · rename_i hn; exact absurd hn this
    | i + 1, j + 1 => simp at hi hj; rw [noDup_ne h.2 hi hj]

theorem rnH_get {keep : List Nat} {H : Heap} : ∀ {l : List Nat} {H' : Heap}, rnH keep H l = some H' → H'.length = l.length ∧ ∀ (j : Nat) (i : Nat), l[j]? = some i → ∃ o, H[i]? = some o ∧ H'[j]? = some (rnO (idx keep) o)
  | [], H', h => by simp only [rnH, Option.some.injEq] at h; subst h; exact ⟨rfl, fun j i hi => by simp at hi⟩
  | x :: l, H', h => by
    simp only [rnH] at h
    split at h
    · rename_i o r h1 h2
      cases h
      obtain ⟨a1, a2⟩ := rnH_get h2
      refine ⟨by simp [a1], fun j i hi => ?_⟩
      match j with
      | 0 => simp at hi; subst hi; exact ⟨o, h1, rfl⟩
      | j + 1 => simp at hi; obtain ⟨y, hy, hy2⟩ := a2 j i hi; exact ⟨y, hy, by simpa using hy2⟩
    · cases h

def dpl : Pl := ⟨0, 0, 0, false⟩
def rnP (ρ : List Pl) (keep : List Nat) : List Pl := keep.map fun i => ρ.getD i dpl

section
variable {P : Program} {E : Nat → Prop} {w0 w : World} {ρ : List Pl} {H H' : Heap} {keep : List Nat}

/-- How the two heaps lie to one another. -/
structure Rn (ρ : List Pl) (H : Heap) (keep : List Nat) (H' : Heap) : Prop where
  len : H'.length = keep.length
  rl : ρ.length = H.length
  get : ∀ (j i : Nat), keep[j]? = some i → ∃ o, H[i]? = some o ∧ H'[j]? = some (rnO (idx keep) o)

theorem Rn.of (h : restrict keep H = some H') (hl : ρ.length = H.length) : Rn ρ H keep H' := by
  obtain ⟨a, b⟩ := rnH_get h
  exact ⟨a, hl, b⟩
theorem Rn.place (h : Rn ρ H keep H') {i j : Nat} {p : Pl} (hj : keep[j]? = some i) (hp : ρ[i]? = some p) : (rnP ρ keep)[j]? = some p := by
  simp [rnP, hj, hp]
theorem Rn.placed (h : Rn ρ H keep H') {j : Nat} {p : Pl} (hp : (rnP ρ keep)[j]? = some p) : ∃ i o, keep[j]? = some i ∧ ρ[i]? = some p ∧ H[i]? = some o ∧ H'[j]? = some (rnO (idx keep) o) := by
  simp only [rnP, List.getElem?_map, Option.map_eq_some_iff] at hp
  obtain ⟨i, hi, rfl⟩ := hp
  obtain ⟨o, ho, ho'⟩ := h.get j i hi
  have hlt : i < ρ.length := by rw [h.rl]; exact (List.getElem?_eq_some_iff.1 ho).1
  exact ⟨i, o, hi, by simp [List.getD_eq_getElem?_getD, List.getElem?_eq_getElem hlt], ho, ho'⟩
/-- Objects numbered anew: what is said of them stays. -/
structure Mp (m : Nat → Option Nat) (ρ : List Pl) (H : Heap) (ρ' : List Pl) (H' : Heap) : Prop where
  place : ∀ {i j : Nat} {p : Pl}, m i = some j → ρ[i]? = some p → ρ'[j]? = some p
  gone : ∀ {i j : Nat}, m i = some j → Gone H i → Gone H' j

theorem Rn.mp (h : Rn ρ H keep H') : Mp (idx keep) ρ H (rnP ρ keep) H' := by
  refine ⟨fun hj hp => h.place (idx_get hj) hp, fun {i j} hj hg => ?_⟩
  obtain ⟨o, ho, ho'⟩ := h.get j i (idx_get hj)
  unfold Gone at hg ⊢
  rw [hg] at ho; cases ho
  exact ho'

variable {m : Nat → Option Nat} {ρ' : List Pl}

theorem rnCaps_at : ∀ {caps l : List (Nat × Nat)}, rnCaps m caps = some l → l.length = caps.length ∧ ∀ (j : Nat) (c : Nat × Nat), l[j]? = some c → ∃ c', caps[j]? = some c' ∧ m c'.1 = some c.1 ∧ c'.2 = c.2
  | [], l, h => by simp only [rnCaps, Option.some.injEq] at h; subst h; exact ⟨rfl, fun j c hc => by simp at hc⟩
  | (i, o) :: r, l, h => by
    simp only [rnCaps] at h
    split at h
    · rename_i j' l' h1 h2
      cases h
      obtain ⟨a1, a2⟩ := rnCaps_at h2
      refine ⟨by simp [a1], fun j c hc => ?_⟩
      match j with
      | 0 => simp at hc; subst hc; exact ⟨_, rfl, h1, rfl⟩
      | j + 1 => simp at hc; obtain ⟨c', x1, x2, x3⟩ := a2 j c hc; exact ⟨c', by simpa using x1, x2, x3⟩
    · cases h
theorem rnCaps_mem : ∀ {caps l : List (Nat × Nat)}, rnCaps m caps = some l → ∀ c ∈ caps, ∃ c' ∈ l, m c.1 = some c'.1
  | [], l, h, c, hc => by simp at hc
  | (i, o) :: r, l, h, c, hc => by
    simp only [rnCaps] at h
    split at h
    · rename_i j' l' h1 h2
      cases h
      simp at hc
      rcases hc with rfl | hc
      · exact ⟨_, List.mem_cons_self, h1⟩
      · obtain ⟨c', m, e⟩ := rnCaps_mem h2 c hc; exact ⟨c', List.mem_cons_of_mem _ m, e⟩
    · cases h

theorem rnA_ok (h : Mp m ρ H ρ' H') {a : A} {u : Value} (ha : ARel ρ H a u) : ARel ρ' H' (rnA m a) u := by
  cases a with
  | raw v => exact ha
  | ptr i o =>
    simp only [rnA]; split
    · rename_i j hj; exact ha.imp (h.gone hj) fun ⟨p, hp, hu⟩ => ⟨p, h.place hj hp, hu⟩
    · trivial
  | eptr i sz x f =>
    simp only [rnA]; split
    · rename_i j hj; exact ha.imp (h.gone hj) fun ⟨p, hp, hu⟩ => ⟨p, h.place hj hp, hu⟩
    · trivial
  | sl i sz off len =>
    simp only [rnA]; split
    · rename_i j hj; exact ha.imp (h.gone hj) fun ⟨p, hp, hu⟩ => ⟨p, h.place hj hp, hu⟩
    · trivial
  | map i =>
    simp only [rnA]; split
    · rename_i j hj; exact ha.imp (h.gone hj) fun ⟨p, hp, hu⟩ => ⟨p, h.place hj hp, hu⟩
    · trivial
  | fn f caps =>
    simp only [rnA]; split
    · rename_i l hl
      obtain ⟨hlen, hat⟩ := rnCaps_at hl
      rcases ha with ⟨c, hc, hg⟩ | ⟨vs, hu, hvl, hv⟩
      · obtain ⟨c', hm, he⟩ := rnCaps_mem hl c hc
        exact .inl ⟨c', hm, h.gone he hg⟩
      · refine .inr ⟨vs, hu, by rw [hvl, hlen], fun j c hc => ?_⟩
        obtain ⟨c', h1, h2, h3⟩ := hat j c hc
        obtain ⟨p, hp, hj⟩ := hv j c' h1
        exact ⟨p, h.place h2 hp, by rw [← h3]; exact hj⟩
    · trivial
  | iface t i o =>
    simp only [rnA]; split
    · rename_i j hj; exact ha.imp (h.gone hj) fun ⟨p, hp, hu⟩ => ⟨p, h.place hj hp, hu⟩
    · trivial
  | junk => trivial

theorem rnAs_ok (h : Mp m ρ H ρ' H') {as : List A} {vs : List Value} (ha : AsRel ρ H as vs) : AsRel ρ' H' (as.map (rnA m)) vs := by
  refine ⟨by simp [ha.1], fun j a v hj hv => ?_⟩
  simp only [List.getElem?_map, Option.map_eq_some_iff] at hj
  obtain ⟨a0, h0, rfl⟩ := hj
  exact rnA_ok h (ha.2 j a0 v h0 hv)
theorem rnW_ok (h : Mp m ρ H ρ' H') {x : W} {u : Value} (hx : WRel ρ H x u) : WRel ρ' H' (rnW m x) u := by
  cases x with
  | «at» a => exact rnA_ok h hx
  | agg as => obtain ⟨vs, hu, hv⟩ := hx; exact ⟨vs, hu, rnAs_ok h hv⟩
theorem rnV_ok (h : Mp m ρ H ρ' H') {x : V} {u : Value} (hx : VRel ρ H x u) : VRel ρ' H' (rnV m x) u := by
  cases x with
  | «at» a => exact rnA_ok h hx
  | agg as => obtain ⟨vs, hu, hv⟩ := hx; exact ⟨vs, hu, rnAs_ok h hv⟩
  | tup xs =>
    obtain ⟨vs, hu, hl, hv⟩ := hx
    refine ⟨vs, hu, by simp [hl], fun j x v hj hvj => ?_⟩
    simp only [List.getElem?_map, Option.map_eq_some_iff] at hj
    obtain ⟨x0, h0, rfl⟩ := hj
    exact rnW_ok h (hv j x0 v h0 hvj)
theorem rnCol_len (c : Col) : (rnCol m c).len = c.len := by cases c <;> simp [rnCol, Col.len]
theorem rnCol_at (h : Mp m ρ H ρ' H') {c : Col} {i : Nat} {u : Value} (hi : i < c.len) (ha : ARel ρ H (c.at i) u) : ARel ρ' H' ((rnCol m c).at i) u := by
  cases c with
  | ats l =>
    simp only [Col.len] at hi
    simp only [Col.at, rnCol, List.getD_eq_getElem?_getD, List.getElem?_map, List.getElem?_eq_getElem hi, Option.map_some, Option.getD_some] at ha ⊢
    exact rnA_ok h ha
  | int k l => exact ha
  | bool l => exact ha
  | str l => exact ha
theorem rnCols_ok (h : Mp m ρ H ρ' H') {p : Pl} {sz : Nat} {n : Int} {cols : List Col} {cur : Array Value} (hl : ∀ c ∈ cols, c.len = n.toNat) (hc : ColsRel ρ H p sz n cols cur) : ColsRel ρ' H' p sz n (cols.map (rnCol m)) cur := by
  intro i f c hi hf
  simp only [List.getElem?_map, Option.map_eq_some_iff] at hf
  obtain ⟨c0, h0, rfl⟩ := hf
  obtain ⟨v, hv, hva⟩ := hc i f c0 hi h0
  exact ⟨v, hv, rnCol_at h (by rw [hl c0 (List.mem_of_getElem? h0)]; exact hi) hva⟩
theorem rnRow_ok {p : Pl} {sz : Nat} {n : Int} {cols : List Col} (h : RowOk p sz n cols) : RowOk p sz n (cols.map (rnCol m)) := by
  obtain ⟨h1, h2, h3, h4⟩ := h
  refine ⟨h1, fun c hc => ?_, by simp [h3], h4⟩
  simp only [List.mem_map] at hc
  obtain ⟨c0, hm, rfl⟩ := hc
  rw [rnCol_len]; exact h2 c0 hm
theorem rnO_ok (h : Mp m ρ H ρ' H') {w : World} {p : Pl} {o : AObj} (ho : ObjRel ρ H w p o) : ObjRel ρ' H' w p (rnO m o) := by
  cases o with
  | dead => trivial
  | cells t cs => obtain ⟨h1, h2, cur, h3, h4⟩ := ho; exact ⟨h1, h2, cur, h3, rnAs_ok h h4⟩
  | row e sz n cols => exact ⟨rnRow_ok ho.1, fun hr => let ⟨cur, h1, h2, h3⟩ := ho.2 hr; ⟨cur, h1, h2, rnCols_ok h ho.1.2.1 h3⟩⟩
  | ro e sz n cols => exact ⟨rnRow_ok ho.1, fun hr => let ⟨cur, t, fz, h1, h3⟩ := ho.2 hr; ⟨cur, t, fz, h1, rnCols_ok h ho.1.2.1 h3⟩⟩
  | map kt ks col =>
    obtain ⟨h1, h2, es, clock, h3, h4, h5, h6⟩ := ho
    refine ⟨h1, by rw [rnCol_len]; exact h2, es, clock, h3, h4, fun i x hx => ⟨(h5 i x hx).1, rnCol_at h ?_ (h5 i x hx).2.1, (h5 i x hx).2.2⟩, h6⟩
    rw [h2, ← h4]; exact (Array.getElem?_eq_some_iff.1 hx).1
theorem rnO_mut (o : AObj) : (rnO m o).mut = o.mut ∧ (rnO m o).isDead = o.isDead := by cases o <;> exact ⟨rfl, rfl⟩

theorem restrict_read (h : restrict keep H = some H') (hr : HRead ρ H w) : HRead (rnP ρ keep) H' w := by
  have hR := Rn.of h hr.len
  refine ⟨by simp [rnP, hR.len], fun j p o hp ho => ?_⟩
  obtain ⟨i, o0, hi, hpi, hoi, hoj⟩ := hR.placed hp
  rw [ho] at hoj; cases hoj
  exact rnO_ok hR.mp (hr.obj i p o0 hpi hoi)
theorem restrict_rel (h : restrict keep H = some H') (hd : noDup keep = true) (hr : HRel E w0 ρ H w) : HRel E w0 (rnP ρ keep) H' w := by
  have hR := Rn.of h hr.len
  have hread := restrict_read h hr.read
  refine ⟨hread.len, hread.obj, ?_, ?_, hr.kept⟩
  · intro j j2 p q o o' hp hq ho ho' hm hdd hrl hrl' hne
    obtain ⟨i, o0, hi, hpi, hoi, hoj⟩ := hR.placed hp
    obtain ⟨i2, o2, hi2, hpi2, hoi2, hoj2⟩ := hR.placed hq
    rw [ho] at hoj; cases hoj
    rw [ho'] at hoj2; cases hoj2
    rw [(rnO_mut _).1] at hm
    rw [(rnO_mut _).2] at hdd
    exact hr.inj i i2 p q o0 o2 hpi hpi2 hoi hoi2 hm hdd hrl hrl' fun e => hne (noDup_ne hd hi (e ▸ hi2))
  · intro j p o hp ho hm hrl
    obtain ⟨i, o0, hi, hpi, hoi, hoj⟩ := hR.placed hp
    rw [ho] at hoj; cases hoj
    rw [(rnO_mut _).1] at hm
    exact hr.own i p o0 hpi hoi hm hrl
end
end Go.Sx

