/-
  The functions that are called, by contract.
-/
import Derived.Test.YtbjpcbghchfifaaGreatDoorSxV
set_option linter.all false
namespace Go.Sx
open Go

def argFr : Nat → List V → Fr
  | _, [] => []
  | i, x :: xs => (i, x) :: argFr (i + 1) xs
def plainA : A → Bool
  | .raw _ => true
  | _ => false
def rawA : A → Value
  | .raw v => v
  | _ => undef
def plainW : W → Bool
  | .at a => plainA a
  | .agg as => as.all plainA
def rawW : W → Value
  | .at a => rawA a
  | .agg as => .agg (as.map rawA).toArray
def plainV : V → Bool
  | .at a => plainA a
  | .agg as => as.all plainA
  | .tup xs => xs.all plainW
def rawV : V → Value
  | .at a => rawA a
  | .agg as => .agg (as.map rawA).toArray
  | .tup xs => .tuple (xs.map rawW).toArray

section
variable {ρ ρ' : List Pl} {H H' : Heap}
theorem plainA_eq {a : A} {u : Value} (h : plainA a = true) (hu : ARel ρ H a u) : u = rawA a := by cases a <;> first | exact hu | cases h
theorem plainAs_eq {as : List A} {vs : List Value} (h : as.all plainA = true) (hu : AsRel ρ H as vs) : vs = as.map rawA := by
  apply List.ext_getElem?
  intro i
  simp only [List.getElem?_map]
  rcases Nat.lt_or_ge i as.length with hi | hi
  · have hv : i < vs.length := by rw [hu.1]; exact hi
    rw [List.getElem?_eq_getElem hi, List.getElem?_eq_getElem hv]
    exact congrArg some (plainA_eq (List.all_eq_true.1 h _ (List.getElem_mem hi)) (hu.2 i _ _ (List.getElem?_eq_getElem hi) (List.getElem?_eq_getElem hv)))
  · rw [List.getElem?_eq_none hi, List.getElem?_eq_none (by rw [hu.1]; exact hi)]; rfl
theorem plainW_eq {x : W} {u : Value} (h : plainW x = true) (hu : WRel ρ H x u) : u = rawW x := by
  cases x with
  | «at» a => exact plainA_eq h hu
  | agg as => obtain ⟨vs, rfl, hv⟩ := hu; rw [plainAs_eq h hv]; rfl
theorem plainV_eq {x : V} {u : Value} (h : plainV x = true) (hu : VRel ρ H x u) : u = rawV x := by
  cases x with
  | «at» a => exact plainA_eq h hu
  | agg as => obtain ⟨vs, rfl, hv⟩ := hu; rw [plainAs_eq h hv]; rfl
  | tup xs =>
    obtain ⟨vs, rfl, hl, hv⟩ := hu
    simp only [rawV]
    congr 2
    apply List.ext_getElem?
    intro i
    simp only [List.getElem?_map]
    rcases Nat.lt_or_ge i xs.length with hi | hi
    · have hvl : i < vs.length := by rw [hl]; exact hi
      rw [List.getElem?_eq_getElem hi, List.getElem?_eq_getElem hvl]
      exact congrArg some (plainW_eq (List.all_eq_true.1 h _ (List.getElem_mem hi)) (hv i _ _ (List.getElem?_eq_getElem hi) (List.getElem?_eq_getElem hvl)))
    · rw [List.getElem?_eq_none hi, List.getElem?_eq_none (by rw [hl]; exact hi)]; rfl
theorem plainA_ok {a : A} (h : plainA a = true) : ARel ρ H a (rawA a) := by cases a <;> first | rfl | cases h
theorem plainAs_ok {as : List A} (h : as.all plainA = true) : AsRel ρ H as (as.map rawA) := by
  refine ⟨by simp, fun j a v ha hv => ?_⟩
  simp only [List.getElem?_map, ha, Option.map_some, Option.some.injEq] at hv
  subst hv
  exact plainA_ok (List.all_eq_true.1 h _ (List.mem_of_getElem? ha))
theorem plainW_ok {x : W} (h : plainW x = true) : WRel ρ H x (rawW x) := by
  cases x with
  | «at» a => exact plainA_ok h
  | agg as => exact ⟨_, rfl, plainAs_ok h⟩
theorem plainV_ok {x : V} (h : plainV x = true) : VRel ρ H x (rawV x) := by
  cases x with
  | «at» a => exact plainA_ok h
  | agg as => exact ⟨_, rfl, plainAs_ok h⟩
  | tup xs =>
    refine ⟨_, rfl, by simp, fun j a v ha hv => ?_⟩
    simp only [List.getElem?_map, ha, Option.map_some, Option.some.injEq] at hv
    subst hv
    exact plainW_ok (List.all_eq_true.1 h _ (List.mem_of_getElem? ha))

theorem argFr_lk : ∀ {xs : List V} {us : List Value} {i t : Nat} {v : V}, VsRel ρ H xs us → lk (argFr i xs) t = some v → i ≤ t ∧ VRel ρ H v (us.getD (t - i) undef)
  | [], us, i, t, v, h, hl => by cases hl
  | x :: xs, us, i, t, v, h, hl => by
    cases h with
    | cons h0 hs =>
      simp only [argFr, lk_cons] at hl
      split at hl
      · rename_i e; subst e; cases hl; exact ⟨Nat.le_refl _, by simpa using h0⟩
      · obtain ⟨h1, h2⟩ := argFr_lk hs hl
        refine ⟨by omega, ?_⟩
        rw [show t - i = (t - (i + 1)) + 1 by omega]
        simpa using h2
theorem VsRel.len {xs : List V} {us : List Value} (h : VsRel ρ H xs us) : us.length = xs.length := by
  induction h with
  | nil => rfl
  | cons _ _ ih => simp [ih]
theorem argFr_rel {xs : List V} {us : List Value} (h : VsRel ρ H xs us) : SRel ρ H (argFr 0 xs) (fun t => us.getD t undef) := fun t v hl => by
  have := (argFr_lk h hl).2
  simpa using this
end

/-- What a function says, told onwards. -/
abbrev Tld := {β : Type} → List Leaf → (List Leaf → Option β) → Option β
def Says (SC : Tld) (S : List Leaf → Option (List Leaf)) : Prop := ∀ {β : Type} (ls : List Leaf) (k : List Leaf → Option β) (r : β), SC ls k = some r → ∃ l, S ls = some l ∧ k l = some r
def callP {α : Type} (nargs : Nat) (Tin Tout : Tm) (SC : Tld) (H : Heap) (xs : List V) (k : V → Heap → Option α) : Option α :=
  bif Nat.beq xs.length nargs then
    look 0 Tin [] (argFr 0 xs) H fun ls => SC ls fun r => putU Tout r fun fr _ => match lk fr 0 with
      | some v => bif plainV v then k v H else none
      | none => none
  else none
def Env.addP (Γ : Env) (f : FuncId) (nargs : Nat) (Tin Tout : Tm) (SC : Tld) : Env :=
  ⟨fun p g H xs k => bif Nat.beq g f then callP nargs Tin Tout SC H xs k else Γ.call p g H xs k, Γ.ext, Γ.eqA, Γ.force, Γ.eff⟩

section
variable {P : Program} {Γ : Env}
theorem EnvOk.addP (hΓ : EnvOk P Γ) {f : FuncId} {nargs k0 : Nat} {Tin Tout : Tm} {S : List Leaf → Option (List Leaf)} (hf : FnC P f true nargs k0 Tin Tout S) {SC : Tld} (hSC : Says SC S) : EnvOk P (Γ.addP f nargs Tin Tout SC) := by
  refine ⟨fun p g H xs k r h => ?_, hΓ.ext, hΓ.eqA⟩
  simp only [Env.addP] at h
  cases hb : Nat.beq g f with
  | false => rw [hb] at h; exact hΓ.ok p g H xs k r h
  | true =>
    rw [hb] at h
    simp only [cond_true] at h
    have e := Nat.eq_of_beq_eq_true hb
    subst e
    refine ⟨hf.fn, ?_⟩
    unfold callP at h
    cases hn : Nat.beq xs.length nargs with
    | false => rw [hn] at h; cases h
    | true =>
      rw [hn] at h
      simp only [cond_true] at h
      obtain ⟨ls, h, hlook⟩ := look_par h
      obtain ⟨r1, hS, h⟩ := hSC _ _ _ h
      obtain ⟨fr, H1, hi, h⟩ := putU_some h
      split at h
      · rename_i v hv
        cases hp : plainV v with
        | false => rw [hp] at h; cases h
        | true =>
          rw [hp] at h
          refine ⟨v, H, h, .inl ⟨rfl, ?_⟩⟩
          intro E w0 w ρ us hr hus
          refine ⟨rawV v, plainV_ok hp, fun j => ?_⟩
          obtain ⟨ls2, fr2, H2, ρ2, e2, hi2, hr2, hs2, _, _⟩ := look_ok (E := E) (w0 := w0) (w := w.drewN j) hlook (hr.drewN j) (argFr_rel hus)
          cases e2
          refine Calls.mono (hf.run ls r1 fr2 H2 E w0 (w.drewN j) ρ2 us hS hi2 hr2 (by rw [hus.len]; exact Nat.eq_of_beq_eq_true hn) hs2) ?_
          rintro e w' ⟨u, ρ', fr', H', v', rfl, _, hi', _, hv', hu, hk⟩
          rw [hi] at hi'; cases hi'
          rw [hv] at hv'; cases hv'
          obtain ⟨m, hm⟩ := hk rfl
          exact ⟨by rw [plainV_eq hp hu], j + m, by rw [hm, World.drewN_drewN]⟩
      · cases h
end
end Go.Sx
