/-
  A region that draws its order: operations that only read are taken first wherever they may be; the others come one behind the other. S: what the readings lean on.
-/
import Derived.Test.YtbjpcbghchfifaaGreatDoorSxNt
import Derived.OrdersHeld
set_option linter.all false
namespace Go.Sx
open Go

section
variable {P : Program} {ops : Array Oper} {md : Region.Mode} {S : Nat → World → Prop} {T : World → Prop} {needs : Array Bool → Nat → Nat → Bool} {Qn : Act → World → Prop}

def onlyN (Qn : Act → World → Prop) : Exit → Act → World → Prop := fun e a w => e = .normal ∧ Qn a w
def wpAnyS (P : Program) (md : Region.Mode) (ops : Array Oper) (Qn : Act → World → Prop) (S : Nat → World → Prop) (needs : Array Bool → Nat → Nat → Bool) : Nat → Array Bool → Act → World → Prop
  | 0, listed, a, w => Region.ready md ops listed = [] ∧ Qn a w
  | fuel + 1, listed, a, w =>
    (Region.ready md ops listed = [] → Qn a w) ∧
    ∀ i ∈ Region.ready md ops listed, wpOp P ops (onlyN Qn) i (fun a' w' => (∀ x, needs listed i x = true → S x w') ∧ ∀ m, wpAnyS P md ops Qn S needs fuel (listed.setIfInBounds i true) a' (w'.drewN m)) a w

theorem wpAny_of_S : ∀ (fuel : Nat) (listed : Array Bool) (a : Act) (w : World), wpAnyS P md ops Qn S needs fuel listed a w → wpAny P md ops (onlyN Qn) fuel listed a w
  | 0, _, _, _, h => ⟨h.1, rfl, h.2⟩
  | fuel + 1, _, _, _, h => ⟨fun h0 => ⟨rfl, h.1 h0⟩, fun i hi => wpOp_mono (fun a' w' h' => wpAny_of_S fuel _ a' w' (by simpa [World.drewN_zero] using h'.2 0)) (h.2 i hi)⟩

/-- In every world of S the operation gives v, by itself or by a function that it calls; only draws are used up. -/
def QuietIf (P : Program) (ops : Array Oper) (S : World → Prop) (o : Oper) (v : Value) (a : Act) : Prop :=
  (Region.wanted o (yielded ops a.tmps) = true ∧ ∀ w, S w → (execOp a.eval o).run P w = .ok (.value v) w ∨
    ∃ f args, (execOp a.eval o).run P w = .ok (.enter f args) w ∧ Calls P f args w (fun e w' => e = .returned v ∧ ∃ k, w' = w.drewN k)) ∨
  (Region.wanted o (yielded ops a.tmps) = false ∧ v = undef)
theorem QuietIf.of_same {o : Oper} {v : Value} {a a' : Act} (hy : QuietIf P ops T o v a) (he : execOp a'.eval o = execOp a.eval o)
    (hw : Region.wanted o (yielded ops a'.tmps) = Region.wanted o (yielded ops a.tmps)) : QuietIf P ops T o v a' := by
  unfold QuietIf at *
  rw [he, hw]
  exact hy
theorem QuietIf.wpOp {i : Nat} {o : Oper} {v : Value} {a : Act} {Q : Exit → Act → World → Prop} (hi : ops[i]? = some o) (hy : QuietIf P ops T o v a)
    {K : Act → World → Prop} {w : World} (hS : T w) (h : ∀ k, K (a.put o.dst v) (w.drewN k)) : wpOp P ops Q i K a w := by
  have h0 := h 0
  rw [World.drewN_zero] at h0
  unfold Go.wpOp
  rw [hi]
  rcases hy with ⟨hw, hv⟩ | ⟨hw, rfl⟩
  · simp only [hw, if_true]
    refine .inl ?_
    unfold Oper.wp
    rcases hv w hS with hr | ⟨f, args, hr, hc⟩
    · rw [hr]; exact h0
    · rw [hr]
      refine Calls.mono hc ?_
      rintro e w' ⟨rfl, k, rfl⟩
      exact h k
  · simp only [hw, Bool.false_eq_true, if_false]; exact h0

/-- A value that is put early is put late. -/
theorem wpOp_late {j : Nat} {oi oj : Oper} {v : Value} (hj : ops[j]? = some oj) (hap : oi.apart ops oj = true) (hsi : ∀ cs b, oi.op ≠ .select cs b) (hsj : ∀ cs b, oj.op ≠ .select cs b)
    {K : Act → World → Prop} {a : Act} {w : World} (h : wpOp P ops (onlyN Qn) j K (a.put oi.dst v) w) :
    wpOp P ops (onlyN Qn) j (fun a' w' => (execOp a'.eval oi = execOp a.eval oi ∧ Region.wanted oi (yielded ops a'.tmps) = Region.wanted oi (yielded ops a.tmps)) ∧ K (a'.put oi.dst v) w') a w := by
  obtain ⟨ha, hb, hc⟩ := Oper.apart_spec hap
  have same : ∀ (u : Value), execOp (a.put oj.dst u).eval oi = execOp a.eval oi ∧ Region.wanted oi (yielded ops (a.put oj.dst u).tmps) = Region.wanted oi (yielded ops a.tmps) := fun u =>
    ⟨execOp_put oi hsi a oj.dst u hc, wanted_put oi a oj.dst u hc⟩
  have he : execOp (a.put oi.dst v).eval oj = execOp a.eval oj := execOp_put oj hsj a oi.dst v ha
  have hcm : ∀ (u : Value) (w' : World), K ((a.put oi.dst v).put oj.dst u) w' → K ((a.put oj.dst u).put oi.dst v) w' := fun u w' h => by rw [← Act.put_comm a v u hb]; exact h
  unfold wpOp at h ⊢
  rw [hj] at h ⊢
  simp only [wanted_put oj a oi.dst v ha] at h ⊢
  cases hw : Region.wanted oj (yielded ops a.tmps) with
  | false =>
    rw [hw] at h
    simp only [Bool.false_eq_true, if_false] at h ⊢
    exact ⟨same _, hcm _ _ h⟩
  | true =>
    rw [hw] at h
    simp only [if_true] at h ⊢
    rcases h with h | ⟨hasks, hlets⟩
    · refine .inl ?_
      unfold Oper.wp at h ⊢
      rw [he] at h
      cases hr : (execOp a.eval oj).run P w with
      | ok nx w1 =>
        rw [hr] at h
        cases nx with
        | value u => exact ⟨same u, hcm u _ h⟩
        | skip => exact ⟨same _, hcm _ _ h⟩
        | defer d =>
          simp only [Oper.upon] at h ⊢
          refine ⟨⟨execOp_put oi hsi { a with defers := d :: a.defers } oj.dst undef hc, wanted_put oi { a with defers := d :: a.defers } oj.dst undef hc⟩, ?_⟩
          rw [← Act.put_comm _ v undef hb, ← Act.put_defers]
          exact h
        | enter f args =>
          refine Calls.mono h fun e w2 h2 => ?_
          cases e with
          | returned u => exact ⟨same u, hcm u _ h2⟩
          | panicked c => cases h2.1
          | outgrown => exact h2
        | row r args => exact Rows.mono h fun u w2 h2 => ⟨same u, hcm u _ h2⟩
        | _ => simp only [Oper.upon] at h ⊢
      | halt x w1 =>
        rw [hr] at h
        cases x with
        | panic u => cases h.1
        | _ => simp only [Oper.upon] at h ⊢
    · refine .inr ⟨?_, hlets⟩
      unfold Oper.asks at hasks ⊢
      rw [he] at hasks
      exact hasks

theorem wpAnyS_first {i : Nat} {oi : Oper} {v : Value} (hi : ops[i]? = some oi) (hsel : ∀ (j : Nat) (o : Oper) cs b, ops[j]? = some o → o.op ≠ .select cs b) (hSd : ∀ x w k, S x w → S x (w.drewN k))
    {clr : Array Bool → Prop} (hstep : ∀ (listed : Array Bool) (j : Nat) (oj : Oper), ops[j]? = some oj → (∀ e ∈ oj.after, Region.binds md e = true → e.on ≠ i) → clr listed → clr (listed.setIfInBounds j true))
    (hneed : (∀ w, S i w) ∨ ∀ (listed : Array Bool) (j : Nat) (oj : Oper), ops[j]? = some oj → (∀ e ∈ oj.after, Region.binds md e = true → e.on ≠ i) → clr listed → needs listed j i = true)
    (hE : ∀ (listed : Array Bool) (j x : Nat), needs (listed.setIfInBounds i true) j x = needs listed j x)
    (hswap : ∀ (listed : Array Bool) (j x : Nat), j < listed.size → needs (listed.setIfInBounds j true) i x = true → needs listed j x = true) :
    ∀ (fuel : Nat) (listed : Array Bool) (a : Act) (w : World),
      (∀ j oj, ops[j]? = some oj → j ≠ i → listed.getD j true = false → (∀ e ∈ oj.after, Region.binds md e = true → e.on ≠ i) → oi.apart ops oj = true) →
      clr listed → i ∈ Region.ready md ops listed → QuietIf P ops (S i) oi v a → S i w → (∀ x, needs listed i x = true → S x w) →
      (∀ k, wpAnyS P md ops Qn S needs fuel (listed.setIfInBounds i true) (a.put oi.dst v) (w.drewN k)) → wpAnyS P md ops Qn S needs (fuel + 1) listed a w := by
  have take : ∀ {fuel : Nat} {listed : Array Bool} {a : Act} {w : World}, QuietIf P ops (S i) oi v a → S i w → (∀ x, needs listed i x = true → S x w) → (∀ k, wpAnyS P md ops Qn S needs fuel (listed.setIfInBounds i true) (a.put oi.dst v) (w.drewN k)) →
      wpOp P ops (onlyN Qn) i (fun a' w' => (∀ x, needs listed i x = true → S x w') ∧ ∀ m, wpAnyS P md ops Qn S needs fuel (listed.setIfInBounds i true) a' (w'.drewN m)) a w := fun hy hS hN H =>
    hy.wpOp hi hS fun k => ⟨fun x hx => hSd _ _ _ (hN x hx), fun m => by rw [World.drewN_drewN]; exact H _⟩
  intro fuel
  induction fuel with
  | zero =>
    intro listed a w _ _ hr hy hS hN H
    refine ⟨fun h => (by rw [h] at hr; cases hr), fun j hj => ?_⟩
    by_cases hji : j = i
    · subst hji; exact take hy hS hN H
    · have := ready_mono hj hji
      rw [(H 0).1] at this
      cases this
  | succ fuel ih =>
    intro listed a w hfree hcl hr hy hS hN H
    refine ⟨fun h => (by rw [h] at hr; cases hr), fun j hj => ?_⟩
    by_cases hji : j = i
    · subst hji; exact take hy hS hN H
    · have h1 := (H 0).2 j (ready_mono hj hji)
      rw [World.drewN_zero] at h1
      obtain ⟨hjun, oj, hoj, hall⟩ := mem_ready.1 hj
      have hjlt : j < listed.size := by
        rcases Nat.lt_or_ge j listed.size with h' | h'
        · exact h'
        · simp [Array.getElem?_eq_none h'] at hjun
      have hnot : ∀ e ∈ oj.after, Region.binds md e = true → e.on ≠ i := fun e he hb heq => by
        have h1 := hall e he hb
        have h0 := (mem_ready.1 hr).1
        rw [heq] at h1
        rcases Nat.lt_or_ge i listed.size with h' | h'
        · simp [h'] at h0 h1; rw [h0] at h1; cases h1
        · simp [Array.getElem?_eq_none h'] at h1
      have h2 := wpOp_late hoj (hfree j oj hoj hji hjun hnot) (fun cs b => hsel i oi cs b hi) (fun cs b => hsel j oj cs b hoj) h1
      have hfree' : ∀ k ok, ops[k]? = some ok → k ≠ i → (listed.setIfInBounds j true).getD k true = false →
          (∀ e ∈ ok.after, Region.binds md e = true → e.on ≠ i) → oi.apart ops ok = true := fun k ok hk hki hun hno => by
        refine hfree k ok hk hki ?_ hno
        by_cases hjk : j = k
        · subst hjk; exact hjun
        · rw [getD_set_ne true hjk] at hun; exact hun
      have hcl' := hstep listed j oj hoj hnot hcl
      refine wpOp_mono (fun a' w' h3 => ?_) h2
      have hS' : S i w' := by
        rcases hneed with hn | hn
        · exact hn w'
        · exact h3.2.1 i (by rw [hE]; exact hn listed j oj hoj hnot hcl)
      refine ⟨fun x hx => h3.2.1 x (by rw [hE]; exact hx), fun m => ih (listed.setIfInBounds j true) a' (w'.drewN m) hfree' hcl' (ready_mono hr (Ne.symm hji)) (hy.of_same h3.1.1 h3.1.2) (hSd _ _ _ hS')
        (fun x hx => hSd _ _ _ (h3.2.1 x (by rw [hE]; exact hswap listed j x hjlt hx))) fun k => ?_⟩
      rw [Array.setIfInBounds_comm _ _ hji, World.drewN_drewN]
      exact h3.2.2 _

theorem wpAnyS_one {k fuel : Nat} {listed : Array Bool} {a : Act} {w : World} (hr : Region.ready md ops listed = [k])
    (h : wpOp P ops (onlyN Qn) k (fun a' w' => (∀ x, needs listed k x = true → S x w') ∧ ∀ m, wpAnyS P md ops Qn S needs fuel (listed.setIfInBounds k true) a' (w'.drewN m)) a w) : wpAnyS P md ops Qn S needs (fuel + 1) listed a w :=
  ⟨fun h0 => (by rw [hr] at h0; cases h0), fun i hi => by
    rw [hr] at hi
    have : i = k := by simpa using hi
    subst this; exact h⟩
theorem wpAnyS_done {listed : Array Bool} {a : Act} {w : World} (hr : Region.ready md ops listed = []) (h : Qn a w) : ∀ fuel, wpAnyS P md ops Qn S needs fuel listed a w
  | 0 => ⟨hr, h⟩
  | _ + 1 => ⟨fun _ => h, by rw [hr]; simp⟩

theorem wp_region_S {id : Nat} {Q : Exit → Act → World → Prop} {a : Act} {w : World} (hm : P.follows .mixedOrders = true) (hQ : ∀ a w, Qn a w → Q .normal a w)
    (h : wpAnyS P .any ops Qn S needs ops.size (Array.replicate ops.size false) a { w with drawn := w.drawn + 1 }) : (Code.region id ops true).wp P Q a w :=
  wp_mono (wp_region_any hm (wpAny_of_S _ _ _ _ h)) fun e a w h => by obtain ⟨rfl, h⟩ := h; exact hQ a w h

/-- Does operation j wait for operation i? -/
def waitsB (o : Oper) (i : Nat) : Bool := o.after.any fun e => Region.binds .any e && e.on == i
/-- No operation that writes and waits for x has been listed. -/
def clearB (ops : Array Oper) (fl : Nat → Bool) (listed : Array Bool) (x : Nat) : Bool :=
  (List.range ops.size).all fun k => !(listed.getD k false) || fl k || (match ops[k]? with | some o => !(waitsB o x) | none => true)
/-- What reading x leans on is to stay as it is under operation j. -/
def needF (ops : Array Oper) (fl ln : Nat → Bool) (listed : Array Bool) (j x : Nat) : Bool :=
  (fl x && ln x) && (fl j || (match ops[j]? with | some o => !(waitsB o x) | none => true)) && clearB ops fl listed x
def needL (ops : Array Oper) (fl ln : Nat → Bool) (listed : Array Bool) (j : Nat) : List Nat := (List.range ops.size).filter (needF ops fl ln listed j)
theorem waitsB_no {o : Oper} {i : Nat} : waitsB o i = false ↔ ∀ e ∈ o.after, Region.binds .any e = true → e.on ≠ i := by
  unfold waitsB
  rw [Bool.eq_false_iff]
  constructor
  · intro h e he hb heq
    exact h (Array.any_eq_true'.2 ⟨e, he, by simp [hb, heq]⟩)
  · intro hno h
    obtain ⟨e, he, hb⟩ := Array.any_eq_true'.1 h
    simp only [Bool.and_eq_true, beq_iff_eq] at hb
    exact hno e he hb.1 hb.2
theorem clearB_iff {fl : Nat → Bool} {listed : Array Bool} {x : Nat} : clearB ops fl listed x = true ↔ ∀ (k : Nat) (o : Oper), ops[k]? = some o → listed.getD k false = true → fl k = false → waitsB o x = false := by
  unfold clearB
  rw [List.all_eq_true]
  constructor
  · intro h k o ho hl hf
    have := h k (List.mem_range.2 (Array.getElem?_eq_some_iff.1 ho).1)
    rw [hl, hf, ho] at this
    simpa using this
  · intro h k hk
    rw [List.mem_range] at hk
    have ho : ops[k]? = some ops[k] := Array.getElem?_eq_getElem hk
    rw [ho]
    cases hl : listed.getD k false with
    | false => rfl
    | true =>
      cases hf : fl k with
      | true => simp
      | false => simp [h k _ ho hl hf]
theorem needF_fl {fl ln : Nat → Bool} {listed : Array Bool} {j x : Nat} (h : needF ops fl ln listed j x = true) : fl x = true ∧ clearB ops fl listed x = true ∧ ln x = true := by
  unfold needF at h
  simp only [Bool.and_eq_true] at h
  exact ⟨h.1.1.1, h.2, h.1.1.2⟩
theorem needF_need {fl ln : Nat → Bool} {i : Nat} (hi : fl i = true) (hl : ln i = true) (listed : Array Bool) (j : Nat) (oj : Oper) (hj : ops[j]? = some oj) (hno : ∀ e ∈ oj.after, Region.binds .any e = true → e.on ≠ i)
    (hcl : clearB ops fl listed i = true) : needF ops fl ln listed j i = true := by
  unfold needF
  rw [hi, hl, hj, hcl]
  simp [waitsB_no.2 hno]
theorem getD_set_ne' {l : Array Bool} {i j : Nat} (h : i ≠ j) (b d : Bool) : (l.setIfInBounds i b).getD j d = l.getD j d := by
  rw [Array.getD_eq_getD_getElem?, Array.getElem?_setIfInBounds_ne h, Array.getD_eq_getD_getElem?]
theorem clearB_fl {fl : Nat → Bool} {i : Nat} (hi : fl i = true) (listed : Array Bool) (x : Nat) : clearB ops fl (listed.setIfInBounds i true) x = clearB ops fl listed x := by
  rw [Bool.eq_iff_iff, clearB_iff, clearB_iff]
  constructor
  · intro h k o ho hl hf
    have hne : i ≠ k := fun e => by subst e; rw [hi] at hf; cases hf
    exact h k o ho (by rw [getD_set_ne' hne]; exact hl) hf
  · intro h k o ho hl hf
    have hne : i ≠ k := fun e => by subst e; rw [hi] at hf; cases hf
    exact h k o ho (by rw [getD_set_ne' hne] at hl; exact hl) hf
theorem clearB_set {fl : Nat → Bool} {j : Nat} {listed : Array Bool} {x : Nat} (h : clearB ops fl (listed.setIfInBounds j true) x = true) : clearB ops fl listed x = true := by
  rw [clearB_iff] at h ⊢
  intro k o ho hl hf
  refine h k o ho ?_ hf
  by_cases hjk : j = k
  · subst hjk
    rcases Nat.lt_or_ge j listed.size with h' | h'
    · rw [Array.getD_eq_getD_getElem?, Array.getElem?_setIfInBounds_self_of_lt h']; rfl
    · rw [Array.setIfInBounds_eq_of_size_le h']; exact hl
  · rw [getD_set_ne' hjk]; exact hl
theorem clearB_step {fl : Nat → Bool} {i : Nat} (listed : Array Bool) (j : Nat) (oj : Oper) (hj : ops[j]? = some oj) (hno : ∀ e ∈ oj.after, Region.binds .any e = true → e.on ≠ i) (hcl : clearB ops fl listed i = true) : clearB ops fl (listed.setIfInBounds j true) i = true := by
  rw [clearB_iff] at hcl ⊢
  intro k o ho hl hf
  by_cases hjk : j = k
  · subst hjk
    rw [hj] at ho; cases ho
    exact waitsB_no.2 hno
  · exact hcl k o ho (by rw [getD_set_ne' hjk] at hl; exact hl) hf
theorem needF_set {fl ln : Nat → Bool} {j : Nat} {listed : Array Bool} {x : Nat} (hj : j < listed.size) (hx : fl x = true) (hl : ln x = true) (h : clearB ops fl (listed.setIfInBounds j true) x = true) : needF ops fl ln listed j x = true := by
  unfold needF
  rw [hx, hl, clearB_set h]
  cases hf : fl j with
  | true => rfl
  | false =>
    cases ho : ops[j]? with
    | none => rfl
    | some o =>
      have := clearB_iff.1 h j o ho (by rw [Array.getD_eq_getD_getElem?, Array.getElem?_setIfInBounds_self_of_lt hj]; rfl) hf
      simp [this]
theorem needF_E {fl ln : Nat → Bool} {i : Nat} (hi : fl i = true) (listed : Array Bool) (j x : Nat) : needF ops fl ln (listed.setIfInBounds i true) j x = needF ops fl ln listed j x := by
  unfold needF
  rw [clearB_fl hi]
end
end Go.Sx
