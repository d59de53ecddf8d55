/-
  Code with loops: what it says; its soundness.
-/
import Derived.Test.YtbjpcbghchfifaaGreatDoorSxP
set_option linter.all false
namespace Go.Sx
open Go

/-- A code's first region: loops are told apart by it. -/
def rid : Code → Nat
  | .region id _ _ => id
  | .seq a _ => rid a
  | .cond _ a _ => rid a
  | .block _ b => rid b
  | .loop b => rid b
  | _ => 0

/-- The loops within a code. -/
def loopsOf : Code → List Code
  | .seq a b => loopsOf a ++ loopsOf b
  | .cond _ a b => loopsOf a ++ loopsOf b
  | .block _ b => loopsOf b
  | .loop b => b :: loopsOf b
  | _ => []
def loopsIt : List Item → List Code
  | [] => []
  | .code c :: k => loopsOf c ++ loopsIt k
  | .inLoop c :: k => c :: loopsOf c ++ loopsIt k
  | _ :: k => loopsIt k

/-- What the loops of a function say: how they are left, or that the function ends. -/
structure Loops where
  loop : {α : Type} → Code → Fr → Heap → (Nat → Fr → Heap → Option α) → (Fr → Heap → Option α) → Option α
def Loops.none : Loops := ⟨fun _ _ _ _ _ => Option.none⟩

/-- What a piece of code says: it comes to its end, leaves a block, or the function ends. -/
def den {α : Type} (Γ : Env) (Λ : Loops) (pure : Bool) (tl : Tab) (n : Nat) (onEnd : Fr → Heap → Option α) (onExit : Nat → Fr → Heap → Option α) (onRet : Fr → Heap → Option α) : Nat → List Item → Fr → Heap → Option α
  | 0, _, _, _ => none
  | fuel + 1, items, fr, H =>
    match items with
    | [] => onEnd fr H
    | .code .skip :: k => den Γ Λ pure tl n onEnd onExit onRet fuel k fr H
    | .code (.seq a b) :: k => den Γ Λ pure tl n onEnd onExit onRet fuel (.code a :: .code b :: k) fr H
    | .code (.region _ ops draw) :: k => denRegion Γ pure tl n ops draw fr H fun fr' H' => den Γ Λ pure tl n onEnd onExit onRet fuel k fr' H'
    | .code (.cond x a b) :: k =>
      match ev fr x with
      | .at (.raw (.bool β)) => br β (den Γ Λ pure tl n onEnd onExit onRet fuel (.code a :: k) fr H) (den Γ Λ pure tl n onEnd onExit onRet fuel (.code b :: k) fr H)
      | _ => none
    | .code (.block id b) :: k => den Γ Λ pure tl n onEnd onExit onRet fuel (.code b :: .inBlock id :: k) fr H
    | .code (.loop b) :: k => Λ.loop b fr H (fun id fr' H' => match exitTo id k with
        | some k' => den Γ Λ pure tl n onEnd onExit onRet fuel k' fr' H'
        | none => onExit id fr' H') onRet
    | .code (.exit id) :: k => match exitTo id k with
        | some k' => den Γ Λ pure tl n onEnd onExit onRet fuel k' fr H
        | none => onExit id fr H
    | .code .ret :: _ => onRet fr H
    | .inBlock _ :: k => den Γ Λ pure tl n onEnd onExit onRet fuel k fr H
    | _ => none

/-! ### The machine -/
/-- From this frame, with this left to do, the call comes to its end, and R holds of what it hands back. -/
def Goes (P : Program) (f : FuncId) (a : Act) (k : List Item) (w : World) (R : Value → World → Prop) : Prop :=
  ∀ (b : Frame) (cs : List Frame), b.fn = f → b.kind = .normal →
    ∃ v w' fr, R v w' ∧ Steps P (lone (b.at a k) cs w) (lone fr cs w') ∧ fr.fn = f ∧ fr.leaving P w' (.returned v)

section
variable {P : Program} {E : Nat → Prop} {w0 ws w : World} {ρ0 ρ : List Pl} {H : Heap} {n : Nat} {fr : Fr} {a : Act} {α : Type} {tl : Tab} {Γ : Env} {Λ : Loops}

theorem Goes.step {f : FuncId} {a a' : Act} {k k' : List Item} {w w' : World} {R : Value → World → Prop}
    (hs : ∀ (b : Frame) (cs : List Frame), step P (lone (b.at a k) cs w) = .next (lone (b.at a' k') cs w')) (h : Goes P f a' k' w' R) : Goes P f a k w R := by
  intro b cs hb hk
  obtain ⟨v, w2, fr, h1, h2, h3, h4⟩ := h b cs hb hk
  exact ⟨v, w2, fr, h1, .head (hs b cs) h2, h3, h4⟩

theorem Goes.code {f : FuncId} {a : Act} {c : Code} {k : List Item} {w : World} {R : Value → World → Prop} (h : c.wp P (fun e a' w' => e = .normal ∧ Goes P f a' k w' R) a w) : Goes P f a (.code c :: k) w R := by
  intro b cs hb hk
  obtain ⟨e, a', w', ⟨rfl, hg⟩, harr⟩ := h b k cs
  obtain ⟨v, w2, fr, h1, h2, h3, h4⟩ := hg b cs hb hk
  exact ⟨v, w2, fr, h1, Steps.trans harr h2, h3, h4⟩

theorem Goes.ret {f : FuncId} {fn : Func} (hf : P.funcs[f]? = some fn) {a : Act} {k : List Item} {w : World} {R : Value → World → Prop} {v : Value} (hd : a.defers = []) (hr : (results fn a.tmps).run P w = .ok v w) (hR : R v w) : Goes P f a (.code .ret :: k) w R := by
  intro b cs hb hk
  exact ⟨v, w, _, hR, .one step_ret, hb, rfl, hd, hk, fn, by simpa [hb, Frame.at] using hf, hr⟩
theorem Goes.end_ {f : FuncId} {fn : Func} (hf : P.funcs[f]? = some fn) {a : Act} {w : World} {R : Value → World → Prop} {v : Value} (hd : a.defers = []) (hr : (results fn a.tmps).run P w = .ok v w) (hR : R v w) : Goes P f a [] w R := by
  intro b cs hb hk
  exact ⟨v, w, _, hR, .one step_end, hb, rfl, hd, hk, fn, by simpa [hb, Frame.at] using hf, hr⟩

theorem calls_of_goes {f : FuncId} {fn : Func} {c : Code} {args : Array Value} {w : World} {R : Value → World → Prop} (hf : P.funcs[f]? = some fn) (hb : fn.body = some c)
    (h : Goes P f { tmps := args ++ Array.replicate (fn.ntmps - args.size) undef, defers := [] } [.code c] w R) : Calls P f args w fun e w' => ∃ v, e = .returned v ∧ R v w' := by
  intro cs
  let b : Frame := { (default : Frame) with fn := f, kind := .normal }
  have henter : Frame.enter P f args .normal = b.at { tmps := args ++ Array.replicate (fn.ntmps - args.size) undef, defers := [] } [.code c] := by
    simp [Frame.enter, Frame.at, hf, hb, b]
  obtain ⟨v, w', fr, h1, h2, h3, h4⟩ := h b cs rfl rfl
  rw [← henter] at h2
  exact ⟨.returned v, w', fr, ⟨v, rfl, h1⟩, h2, h3, h4⟩

/-- The function ends here. -/
def Ends (P : Program) (fn : Func) (a : Act) (w : World) (R : Value → World → Prop) : Prop :=
  ∃ v, (results fn a.tmps).run P w = .ok v w ∧ R v w

/-- What is said of a loop is so: from its head on, whatever lies behind it. -/
def LOk (P : Program) (f : FuncId) (fn : Func) (pure : Bool) (E : Nat → Prop) (w0 ws : World) (n : Nat) (ρ0 : List Pl) (Λ : Loops) (b : Code) : Prop :=
  ∀ {α : Type} (kx : Nat → Fr → Heap → Option α) (kr : Fr → Heap → Option α) (r : α) (ρ : List Pl) (H : Heap) (fr : Fr) (a : Act) (w : World),
    Λ.loop b fr H kx kr = some r → St pure E w0 ws n ρ0 ρ H fr a w → ∀ (k : List Item) (R : Value → World → Prop),
    (∀ id ρ' H' fr' a' w', St pure E w0 ws n ρ0 ρ' H' fr' a' w' → kx id fr' H' = some r → ∃ k1, exitTo id k = some k1 ∧ Goes P f a' k1 w' R) →
    (∀ ρ' H' fr' a' w', St pure E w0 ws n ρ0 ρ' H' fr' a' w' → kr fr' H' = some r → Ends P fn a' w' R) →
    Goes P f a (.code b :: .inLoop b :: k) w R

theorem exitTo_append (id : Nat) : ∀ (k K : List Item), exitTo id (k ++ K) = match exitTo id k with | some k' => some (k' ++ K) | none => exitTo id K
  | [], K => by simp [exitTo]
  | x :: k, K => by
    have ih := exitTo_append id k K
    cases x <;> simp only [List.cons_append, exitTo] <;> first
      | exact ih
      | (split <;> simp_all)

theorem loops_exit {id : Nat} : ∀ {k k' : List Item}, exitTo id k = some k' → ∀ b ∈ loopsIt k', b ∈ loopsIt k
  | [], k', h, b, hb => by simp [exitTo] at h
  | x :: k, k', h, b, hb => by
    have sub : ∀ y, y ∈ loopsIt k → y ∈ loopsIt (x :: k) := by
      intro y hy
      cases x <;> simp [loopsIt, hy]
    cases x <;> simp only [exitTo] at h <;> first
      | exact sub b (loops_exit h b hb)
      | (split at h
         · cases h; exact sub b hb
         · exact sub b (loops_exit h b hb))

theorem den_ok (hm : P.follows .mixedOrders = true) (htl : TabOk P tl) (hΓ : EnvOk P Γ) {pure : Bool} {f : FuncId} {fn : Func} (hfn : P.funcs[f]? = some fn) {R : Value → World → Prop} {K : List Item}
    {onEnd : Fr → Heap → Option α} {onExit : Nat → Fr → Heap → Option α} {onRet : Fr → Heap → Option α} {r : α}
    (hEnd : ∀ ρ' H' fr' a' w', St pure E w0 ws n ρ0 ρ' H' fr' a' w' → onEnd fr' H' = some r → Goes P f a' K w' R)
    (hExit : ∀ id ρ' H' fr' a' w', St pure E w0 ws n ρ0 ρ' H' fr' a' w' → onExit id fr' H' = some r → ∃ k1, exitTo id K = some k1 ∧ Goes P f a' k1 w' R)
    (hRet : ∀ ρ' H' fr' a' w', St pure E w0 ws n ρ0 ρ' H' fr' a' w' → onRet fr' H' = some r → Ends P fn a' w' R) :
    ∀ (fuel : Nat) {items : List Item} {ρ : List Pl} {H : Heap} {fr : Fr} {a : Act} {w : World},
    den Γ Λ pure tl n onEnd onExit onRet fuel items fr H = some r → St pure E w0 ws n ρ0 ρ H fr a w →
    (∀ b ∈ loopsIt items, LOk P f fn pure E w0 ws n ρ0 Λ b) → Goes P f a (items ++ K) w R
  | 0, items, ρ, H, fr, a, w, h, _, _ => by simp [den] at h
  | fuel + 1, items, ρ, H, fr, a, w, h, hs, hl => by
    have exits : ∀ {id : Nat} {k : List Item} {ρ' H' fr' a' w'}, (∀ b ∈ loopsIt k, LOk P f fn pure E w0 ws n ρ0 Λ b) → St pure E w0 ws n ρ0 ρ' H' fr' a' w' →
        (match exitTo id k with | some k' => den Γ Λ pure tl n onEnd onExit onRet fuel k' fr' H' | none => onExit id fr' H') = some r → ∃ k1, exitTo id (k ++ K) = some k1 ∧ Goes P f a' k1 w' R := by
      intro id k ρ' H' fr' a' w' hl hs' h
      rw [exitTo_append]
      split at h
      · rename_i k' hk'
        exact ⟨_, rfl, den_ok hm htl hΓ hfn hEnd hExit hRet fuel h hs' fun b hb => hl b (loops_exit hk' b hb)⟩
      · exact hExit id ρ' H' fr' a' w' hs' h
    unfold den at h
    split at h
    · exact hEnd ρ H fr a w hs h
    · exact Goes.step (fun b cs => step_skip) (den_ok hm htl hΓ hfn hEnd hExit hRet fuel h hs fun b hb => hl b (by simpa [loopsIt, loopsOf] using hb))
    · exact Goes.step (fun b cs => step_seq) (den_ok hm htl hΓ hfn hEnd hExit hRet fuel h hs fun b hb => hl b (by simpa [loopsIt, loopsOf] using hb))
    · exact Goes.code (denRegion_ok hm htl hΓ h hs fun ρ' H' fr' a' w' hs' h' => ⟨rfl, den_ok hm htl hΓ hfn hEnd hExit hRet fuel h' hs' fun b hb => hl b (by simpa [loopsIt, loopsOf] using hb)⟩)
    · rename_i x y z k
      split at h
      · rename_i β hx
        have hb := ev_rel hs.frame x
        rw [hx] at hb
        simp only [VRel, ARel] at hb
        refine Goes.step (fun b cs => step_cond (t := β) hb) ?_
        cases β with
        | true => exact den_ok hm htl hΓ hfn hEnd hExit hRet fuel h hs fun b hb => hl b (by simp [loopsIt, loopsOf] at hb ⊢; rcases hb with hb | hb <;> simp [hb])
        | false => exact den_ok hm htl hΓ hfn hEnd hExit hRet fuel h hs fun b hb => hl b (by simp [loopsIt, loopsOf] at hb ⊢; rcases hb with hb | hb <;> simp [hb])
      · cases h
    · exact Goes.step (fun b cs => step_block) (den_ok hm htl hΓ hfn hEnd hExit hRet fuel h hs fun b hb => hl b (by simpa [loopsIt, loopsOf] using hb))
    · rename_i c k
      have hc : LOk P f fn pure E w0 ws n ρ0 Λ c := hl c (by simp [loopsIt, loopsOf])
      refine Goes.step (fun b cs => step_loop) (hc _ _ r ρ H fr a w h hs _ R ?_ hRet)
      exact fun id ρ' H' fr' a' w' hs' h' => exits (fun b hb => hl b (by simp [loopsIt, loopsOf, hb])) hs' h'
    · rename_i id k
      obtain ⟨k1, h1, h2⟩ := exits (fun b hb => hl b (by simp [loopsIt, loopsOf, hb])) hs h
      exact Goes.step (fun b cs => step_exit h1) h2
    · obtain ⟨v, h1, h2⟩ := hRet ρ H fr a w hs h
      exact Goes.ret hfn hs.frame.defers h1 h2
    · exact Goes.step (fun b cs => step_inBlock) (den_ok hm htl hΓ hfn hEnd hExit hRet fuel h hs fun b hb => hl b (by simpa [loopsIt, loopsOf] using hb))
    · cases h
end
end Go.Sx
