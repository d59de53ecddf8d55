/-
  Calls carried out in place, loops turned round by round: for calls whose arguments are known.
-/
import Derived.Test.YtbjpcbghchfifaaGreatDoorSxX
import Derived.Laws.Externs
set_option linter.all false
namespace Go.Sx
open Go

/-! ### Loops, round by round -/
def unrollL (Γ : Env) (pure : Bool) (tl : Tab) (n : Nat) : Nat → Loops
  | 0 => Loops.none
  | k + 1 => ⟨fun b fr H kx kr => den Γ (unrollL Γ pure tl n k) pure tl n (fun fr H => (unrollL Γ pure tl n k).loop b fr H kx kr) kx kr 10000 [.code b] fr H⟩

section
variable {P : Program} {E : Nat → Prop} {w0 ws w : World} {ρ0 ρ : List Pl} {H : Heap} {n : Nat} {fr : Fr} {a : Act} {tl : Tab} {Γ : Env} {Λ : Loops}

theorem unroll_ok (hm : P.follows .mixedOrders = true) (htl : TabOk P tl) (hΓ : EnvOk P Γ) {pure : Bool} {f : FuncId} {fn : Func} (hfn : P.funcs[f]? = some fn) :
    ∀ (k : Nat) (b : Code), LOk P f fn pure E w0 ws n ρ0 (unrollL Γ pure tl n k) b
  | 0, b => by intro kx kr r ρ H fr a w h; cases h
  | k + 1, b => by
    intro kx kr r ρ H fr a w h hs K R hx hr
    simp only [unrollL] at h
    refine den_ok (K := .inLoop b :: K) (items := [.code b]) hm htl hΓ hfn ?_ ?_ hr 10000 h hs fun b' _ => unroll_ok hm htl hΓ hfn k b'
    · intro ρ' H' fr' a' w' hs' h'
      exact Goes.step (fun b cs => step_inLoop) (unroll_ok hm htl hΓ hfn k b kx kr r ρ' H' fr' a' w' h' hs' K R hx hr)
    · intro id ρ' H' fr' a' w' hs' h'
      obtain ⟨k1, h1, h2⟩ := hx id ρ' H' fr' a' w' hs' h'
      exact ⟨k1, by simpa [exitTo] using h1, h2⟩
end

/-! ### Functions by their texts -/
abbrev Fns := List (Nat × Func)
def FnsOk (P : Program) (fs : Fns) : Prop := ∀ f fn, lk fs f = some fn → P.funcs[f]? = some fn ∧ (fn.name == "runtime.NumGoroutine") = false
theorem FnsOk.nil {P : Program} : FnsOk P [] := fun t ti h => by cases h
theorem FnsOk.cons {P : Program} {f : Nat} {fn : Func} {fs : Fns} (h : P.funcs[f]? = some fn) (h1 : (fn.name == "runtime.NumGoroutine") = false) (hs : FnsOk P fs) : FnsOk P ((f, fn) :: fs) := by
  intro f' fn' hl
  simp only [lk] at hl
  cases hb : Nat.beq f f' with
  | true =>
    have e : f = f' := Nat.eq_of_beq_eq_true hb
    subst e
    simp only [hb, cond_true, Option.some.injEq] at hl
    subst hl; exact ⟨h, h1⟩
  | false =>
    simp only [hb, cond_false] at hl
    exact hs f' fn' hl

def fin1 (tl : Tab) (ts : List ResultVar) (fr : Fr) (H : Heap) : Option (V × Heap) := match retV tl ts fr H with | some v => some (v, H) | none => none
def deadKept : Heap → Heap → Bool
  | [], _ => true
  | o :: r, o' :: r' => (bif o.isDead then o'.isDead else true) && deadKept r r'
  | _ :: _, [] => false
def callI (Γ : Env) (pure : Bool) (tl : Tab) (fn : Func) (xs : List V) (H : Heap) : Option (V × Heap) :=
  match fn.body with
  | some body => bif Nat.ble xs.length fn.ntmps then den Γ (unrollL Γ pure tl fn.ntmps 5000) pure tl fn.ntmps (fin1 tl fn.results.toList) (fun _ _ _ => none) (fin1 tl fn.results.toList) 10000 [.code body] (argFr 0 xs) H else none
  | _ => none
def inl (fs : Fns) (es : List Nat) (tl : Tab) (Γ : Env) : Nat → Env
  | 0 => Γ
  | d + 1 => ⟨fun pure f H xs k => match lk fs f with
    | some fn => match callI (inl fs es tl Γ d) pure tl fn xs H with
      | some (v, H') => match pure with
        | true => bif plainV v then k v H else none
        | false => bif deadKept H H' then k v H' else none
      | none => none
    | none => Γ.call pure f H xs k, Γ.ext, Γ.eqA, true, fun g => memN es g || Γ.eff g⟩

section
variable {P : Program} {E : Nat → Prop} {w0 w : World} {ρ : List Pl} {H H' : Heap} {tl : Tab} {Γ : Env}

theorem deadKept_ok : ∀ {H H' : Heap}, deadKept H H' = true → ∀ i, Gone H i → Gone H' i
  | [], H', h, i, hg => by simp [Gone] at hg
  | o :: r, o' :: r', h, i, hg => by
    simp only [deadKept, Bool.and_eq_true] at h
    match i with
    | 0 =>
      simp [Gone] at hg
      subst hg
      have := h.1
      simp only [AObj.isDead, cond_true] at this
      unfold Gone
      cases o' <;> first | rfl | cases this
    | i + 1 => simpa [Gone] using deadKept_ok h.2 i (by simpa [Gone] using hg)
  | _ :: _, [], h, i, hg => by simp [deadKept] at h

theorem argFr_lt : ∀ {xs : List V} {i t : Nat} {v : V}, lk (argFr i xs) t = some v → t < i + xs.length
  | [], i, t, v, h => by cases h
  | x :: xs, i, t, v, h => by
    simp only [argFr, lk_cons] at h
    split at h
    · rename_i e; subst e; simp
    · have := argFr_lt h; simp; omega

theorem callI_ok (hm : P.follows .mixedOrders = true) (htl : TabOk P tl) (hΓ : EnvOk P Γ) {pure : Bool} {f : FuncId} {fn : Func} (hfn : P.funcs[f]? = some fn) {xs : List V} {v : V} (h : callI Γ pure tl fn xs H = some (v, H'))
    {us : List Value} (hr : HRel E w0 ρ H w) (hus : VsRel ρ H xs us) :
    Calls P f us.toArray w fun e w' => ∃ u ρ', e = .returned u ∧ (∀ (i : Nat) (p : Pl), ρ[i]? = some p → ρ'[i]? = some p) ∧ HRel E w0 ρ' H' w' ∧ VRel ρ' H' v u ∧ (pure = true → ∃ k, w' = w.drewN k) := by
  unfold callI at h
  split at h
  case h_2 => cases h
  rename_i body hbody
  cases hn : Nat.ble xs.length fn.ntmps with
  | false => rw [hn] at h; cases h
  | true =>
  rw [hn] at h
  simp only [cond_true] at h
  have hn := Nat.le_of_ble_eq_true hn
  have hlen := hus.len
  let a0 : Act := { tmps := us.toArray ++ Array.replicate (fn.ntmps - us.toArray.size) undef, defers := [] }
  have hframe : FRel fn.ntmps ρ H (argFr 0 xs) a0 := by
    refine ⟨by simp [a0, hlen]; omega, rfl, fun t v hl => ?_, fun t v hl => by have := argFr_lt hl; omega⟩
    have h1 := argFr_lt hl
    have h2 := argFr_rel hus t v hl
    have : a0.tmps.getD t undef = us.getD t undef := by
      simp only [a0, Array.getD_eq_getD_getElem?, List.getD_eq_getElem?_getD]
      rw [Array.getElem?_append_left (by simp [hlen]; omega)]
      simp
    rw [this]; exact h2
  have hst : St pure E w0 w fn.ntmps ρ ρ H (argFr 0 xs) a0 w := ⟨fun _ _ h => h, hframe, hr, fun _ => ⟨0, rfl⟩⟩
  have fin : ∀ ρ2 H2 fr2 a2 w2, St pure E w0 w fn.ntmps ρ ρ2 H2 fr2 a2 w2 → fin1 tl fn.results.toList fr2 H2 = some (v, H') →
      Ends P fn a2 w2 fun u w' => ∃ ρ', (∀ (i : Nat) (p : Pl), ρ[i]? = some p → ρ'[i]? = some p) ∧ HRel E w0 ρ' H' w' ∧ VRel ρ' H' v u ∧ (pure = true → ∃ k, w' = w.drewN k) := by
    intro ρ2 H2 fr2 a2 w2 hs h'
    unfold fin1 at h'
    split at h'
    · rename_i v' hv
      cases h'
      obtain ⟨u, hrun, hu⟩ := retV_run (P := P) (w := w2) htl hs.heap.read rfl hv hs.frame
      exact ⟨u, hrun, ρ2, hs.pre, hs.heap, hu, hs.still⟩
    · cases h'
  have hgo := den_ok (K := []) (items := [.code body]) (ρ0 := ρ) hm htl hΓ hfn (R := fun u w' => ∃ ρ', (∀ (i : Nat) (p : Pl), ρ[i]? = some p → ρ'[i]? = some p) ∧ HRel E w0 ρ' H' w' ∧ VRel ρ' H' v u ∧ (pure = true → ∃ k, w' = w.drewN k))
    (fun ρ' H' fr' a' w' hs' h' => let ⟨u, h1, h2⟩ := fin ρ' H' fr' a' w' hs' h'; Goes.end_ hfn hs'.frame.defers h1 h2)
    (fun id ρ' H' fr' a' w' hs' h' => by cases h') fin 10000 h hst (fun b _ => unroll_ok hm htl hΓ hfn 5000 b)
  refine Calls.mono (calls_of_goes hfn hbody hgo) ?_
  rintro e w' ⟨u, rfl, ρ', h1, h2, h3, h4⟩
  exact ⟨u, ρ', rfl, h1, h2, h3, h4⟩

theorem EnvOk.inl (hm : P.follows .mixedOrders = true) (htl : TabOk P tl) (hΓ : EnvOk P Γ) {fs : Fns} (hfs : FnsOk P fs) (es : List Nat) : ∀ d, EnvOk P (Sx.inl fs es tl Γ d)
  | 0 => hΓ
  | d + 1 => by
    have ih := EnvOk.inl hm htl hΓ hfs es d
    refine ⟨fun pure f H xs k r h => ?_, hΓ.ext, hΓ.eqA⟩
    simp only [Sx.inl] at h
    split at h
    · rename_i fn hfn
      obtain ⟨h1, h2⟩ := hfs f fn hfn
      split at h
      · rename_i v H' hc
        have hb : fn.body.isNone = false := by
          unfold callI at hc
          split at hc
          · rename_i hb; rw [hb]; rfl
          · cases hc
        refine ⟨⟨fn, h1, h2, hb⟩, ?_⟩
        cases pure with
        | true =>
          simp only at h
          cases hp : plainV v with
          | false => rw [hp] at h; cases h
          | true =>
            rw [hp] at h
            refine ⟨v, H, h, .inl ⟨rfl, fun E w0 w ρ us hr hus => ⟨rawV v, plainV_ok hp, fun j => ?_⟩⟩⟩
            refine Calls.mono (callI_ok hm htl ih h1 hc (hr.drewN j) hus) ?_
            rintro e w' ⟨u, ρ', rfl, _, _, hu, hk⟩
            obtain ⟨m, rfl⟩ := hk rfl
            exact ⟨by rw [plainV_eq hp hu], j + m, by rw [World.drewN_drewN]⟩
        | false =>
          simp only at h
          cases hd : deadKept H H' with
          | false => rw [hd] at h; cases h
          | true =>
            rw [hd] at h
            refine ⟨v, H', h, .inr ⟨rfl, fun E w0 w ρ us hr hus => ?_⟩⟩
            refine Calls.mono (callI_ok hm htl ih h1 hc hr hus) ?_
            rintro e w' ⟨u, ρ', rfl, hp, hr', hu, _⟩
            exact ⟨u, ρ', rfl, ⟨hp, deadKept_ok hd⟩, hr', hu⟩
      · cases h
    · exact hΓ.ok pure f H xs k r h

/-- A call without arguments that gives a plain value, and turns nothing that was there. -/
def Gives (P : Program) (f : FuncId) (v : V) : Prop := ∀ w : World, Calls P f #[] w fun e w' => e = .returned (rawV v) ∧ Kept (fun _ => False) w w'

theorem HRel.nil (E : Nat → Prop) (w : World) : HRel E w [] [] w := ⟨rfl, fun i p o h => by simp at h, fun i j p q o o' h => by simp at h, fun i p o h => by simp at h, Kept.refl _ _⟩

theorem gives_of (hm : P.follows .mixedOrders = true) (htl : TabOk P tl) (hΓ : EnvOk P Γ) {f : FuncId} {fn : Func} (hfn : P.funcs[f]? = some fn) {v : V} (h : callI Γ false tl fn [] [] = some (v, H')) (hp : plainV v = true) : Gives P f v := by
  intro w
  refine Calls.mono (callI_ok (E := fun _ => False) (us := []) hm htl hΓ hfn h (HRel.nil _ w) .nil) ?_
  rintro e w' ⟨u, ρ', rfl, _, hr, hu, _⟩
  exact ⟨by rw [plainV_eq hp hu], hr.kept⟩

theorem HRel.keeps (h : HRel E w0 ρ H w) {w' : World} (k : Kept (fun _ => False) w w') : HRel E w0 ρ H w' := by
  refine ⟨h.len, fun i p o hp ho => ?_, h.inj, h.own, h.kept.trans ⟨k.os, k.tape, k.output, k.size, fun i hi _ => k.block i hi fun h => h⟩⟩
  have hob := h.obj i p o hp ho
  cases hrl : p.real with
  | false => exact hob.virt (Ext.refl _ _) hrl
  | true =>
    cases hd : o.isDead with
    | true => cases o <;> first | (cases hd; done) | trivial
    | false => exact hob.ext (Ext.refl _ _) (k.block _ (real_lt hrl hd hob) fun h => h)

def Env.addK (Γ : Env) (f : FuncId) (v : V) : Env :=
  ⟨fun p g H xs k => bif Nat.beq g f then (match p, xs with | false, [] => k v H | _, _ => Option.none) else Γ.call p g H xs k, Γ.ext, Γ.eqA, Γ.force, fun g => bif Nat.beq g f then true else Γ.eff g⟩
theorem EnvOk.addK (hΓ : EnvOk P Γ) {f : FuncId} (hf : FnOk P f) {v : V} (hp : plainV v = true) (hg : Gives P f v) : EnvOk P (Γ.addK f v) := by
  refine ⟨fun p g H xs k r h => ?_, hΓ.ext, hΓ.eqA⟩
  simp only [Env.addK] at h
  cases hb : Nat.beq g f with
  | false => rw [hb] at h; exact hΓ.ok p g H xs k r h
  | true =>
    rw [hb] at h
    simp only [cond_true] at h
    have e := Nat.eq_of_beq_eq_true hb
    subst e
    refine ⟨hf, ?_⟩
    split at h
    · refine ⟨v, H, h, .inr ⟨rfl, fun E w0 w ρ us hr hus => ?_⟩⟩
      cases hus
      refine Calls.mono (hg w) ?_
      rintro e w' ⟨rfl, hk⟩
      exact ⟨_, ρ, rfl, Ext.refl _ _, hr.keeps hk, plainV_ok hp⟩
    · cases h

/-! ### math/bits.Add64 has no text -/
def addLo (x y c : Int) : Int := (x + y + c) % 18446744073709551616
def addHi (x y c : Int) : Int := (x + y + c) / 18446744073709551616
def ext64 : List V → Option (V × Bool)
  | [.at (.raw (.int .u64 x)), .at (.raw (.int .u64 y)), .at (.raw (.int .u64 (.ofNat 0)))] => some (.tup [.at (.raw (.int .u64 (addLo x y 0))), .at (.raw (.int .u64 (addHi x y 0)))], decide (0 ≤ x ∧ 0 ≤ y))
  | _ => none
def Env.addX (Γ : Env) (f : FuncId) : Env := ⟨Γ.call, fun g xs => bif Nat.beq g f then ext64 xs else Γ.ext g xs, Γ.eqA, Γ.force, Γ.eff⟩
theorem EnvOk.addX (hΓ : EnvOk P Γ) {f : FuncId} {fn : Func} (hf : P.funcs[f]? = some fn) (hname : (fn.name == "runtime.NumGoroutine") = false) (hb : fn.body.isNone = true) (hn : Extern.findNext fn = Option.none) (he : Extern.find fn = some add64Entry) : EnvOk P (Γ.addX f) := by
  refine ⟨hΓ.ok, fun g xs v c h hc ρ H us hus => ?_, hΓ.eqA⟩
  simp only [Env.addX] at h
  cases hbq : Nat.beq g f with
  | false => rw [hbq] at h; exact hΓ.ext g xs v c h hc ρ H us hus
  | true =>
    rw [hbq] at h
    simp only [cond_true] at h
    have e := Nat.eq_of_beq_eq_true hbq
    subst e
    unfold ext64 at h
    split at h
    · rename_i x y
      cases h
      obtain ⟨h1, h2⟩ := of_decide_eq_true hc
      cases hus with
      | cons a0 hus => cases hus with
        | cons a1 hus => cases hus with
          | cons a2 hus =>
            cases hus
            simp only [VRel, ARel] at a0 a1 a2
            subst a0 a1 a2
            refine ⟨.tuple #[.int .u64 (addLo x y 0), .int .u64 (addHi x y 0)], ⟨_, rfl, rfl, fun j w u hw hu => ?_⟩, fun w => ?_⟩
            · match j with
              | 0 => simp at hw hu; subst hw hu; rfl
              | 1 => simp at hw hu; subst hw hu; rfl
              | j + 2 => simp at hw
            · rw [run_callFunc_extern hf hname hb hn he]
              rw [show ([Value.int .u64 x, .int .u64 y, .int .u64 (.ofNat 0)] : List Value).toArray = #[.int .u64 x, .int .u64 y, .int .u64 0] from rfl, run_add64 x y 0 h1 h2 (by decide) (by decide)]
              rfl
    · cases h
/-! ### == of structs and arrays of numbers -/
def eqL : List Int → List Int → Bool
  | [], [] => true
  | a :: r, b :: s => bif a == b then eqL r s else false
  | _, _ => false
def rawInts : List IntKind → List A → Option (List Int)
  | [], [] => some []
  | k :: ks, .raw (.int k' n) :: r => bif decide (k = k') then (match rawInts ks r with | some l => some (n :: l) | none => none) else none
  | _, _ => none
def intVals : List IntKind → List Int → List Value
  | k :: ks, n :: r => .int k n :: intVals ks r
  | _, _ => []
def EqOk (P : Program) (t : TypeId) (ks : List IntKind) : Prop := ∀ (l l' : List Int), l.length = ks.length → l'.length = ks.length → ∀ (x y : Operand) (w : World),
  (do eqGuard .eql t x y (.agg (intVals ks l).toArray) (.agg (intVals ks l').toArray); binOp .eql t (.agg (intVals ks l).toArray) (.agg (intVals ks l').toArray) : Sem Value).run P w = .ok (.bool (eqL l l')) w ∧
  (do eqGuard .neq t x y (.agg (intVals ks l).toArray) (.agg (intVals ks l').toArray); binOp .neq t (.agg (intVals ks l).toArray) (.agg (intVals ks l').toArray) : Sem Value).run P w = .ok (.bool (!(eqL l l'))) w
def Env.addEq (Γ : Env) (t : TypeId) (ks : List IntKind) : Env :=
  ⟨Γ.call, Γ.ext, fun u as bs => bif Nat.beq u t then (match rawInts ks as, rawInts ks bs with | some l, some l' => some (eqL l l') | _, _ => Option.none) else Γ.eqA u as bs, Γ.force, Γ.eff⟩
theorem rawInts_rel {ρ : List Pl} {H : Heap} : ∀ {ks : List IntKind} {as : List A} {l : List Int} {us : List Value}, rawInts ks as = some l → AsRel ρ H as us → l.length = ks.length ∧ us = intVals ks l
  | [], [], l, us, h, hu => by
    simp only [rawInts, Option.some.injEq] at h
    subst h
    exact ⟨rfl, List.eq_nil_of_length_eq_zero hu.1⟩
  | k :: ks, a :: r, l, us, h, hu => by
    unfold rawInts at h
    split at h
    · rename_i e; cases e
    · rename_i k1 ks1 k' n r1 e1 e2
      cases e1; cases e2
      by_cases hk : k = k'
      · subst hk
        simp only [decide_true, cond_true] at h
        split at h
        · rename_i l1 hl
          cases h
          cases us with
          | nil => have := hu.1; simp at this
          | cons u us =>
            have h0 := hu.2 0 _ u rfl rfl
            simp only [ARel] at h0
            obtain ⟨i1, i2⟩ := rawInts_rel hl (us := us) ⟨by have := hu.1; simpa using this, fun j b v hb hv => hu.2 (j + 1) b v (by simpa using hb) (by simpa using hv)⟩
            exact ⟨by simp [i1], by rw [h0, i2]; rfl⟩
        · cases h
      · simp [hk] at h
    · cases h
  | [], _ :: _, l, us, h, hu => by simp [rawInts] at h
  | _ :: _, [], l, us, h, hu => by simp [rawInts] at h
theorem EnvOk.addEq (hΓ : EnvOk P Γ) {t : TypeId} {ks : List IntKind} (he : EqOk P t ks) : EnvOk P (Γ.addEq t ks) := by
  refine ⟨hΓ.ok, hΓ.ext, fun u as bs b h ρ H us vs hu hv x y w => ?_⟩
  simp only [Env.addEq] at h
  cases hb : Nat.beq u t with
  | false => rw [hb] at h; exact hΓ.eqA u as bs b h ρ H us vs hu hv x y w
  | true =>
    rw [hb] at h
    simp only [cond_true] at h
    have e := Nat.eq_of_beq_eq_true hb
    subst e
    split at h
    · rename_i l l' h1 h2
      cases h
      obtain ⟨a1, a2⟩ := rawInts_rel h1 hu
      obtain ⟨b1, b2⟩ := rawInts_rel h2 hv
      rw [a2, b2]
      exact he l l' a1 b1 x y w
    · cases h
end
end Go.Sx
namespace Go.Sx.T
/-- Rounds enough for any loop. -/
def top : Nat := 1000000000000000000000000
def fb (f : Func) : Code := match f.body with | some c => c | none => .skip
def bodyAt (c : Code) (i : Nat) : Code := match (loopsOf c)[i]? with | some b => b | none => .skip
end Go.Sx.T
