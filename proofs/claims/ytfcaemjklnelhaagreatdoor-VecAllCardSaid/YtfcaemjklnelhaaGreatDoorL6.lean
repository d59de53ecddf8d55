import Derived.Test.YtfcaemjklnelhaaGreatDoorL5
import Derived.Laws.Externs
import Derived.Laws.IdiomRangeMap
import Derived.Below
import Derived.DeepKeys
import Derived.ChangeSlices
import Derived.DataReads
import Derived.Deep.Slices
set_option linter.all false
noncomputable section
namespace Go.Sx
open Go

/-! ### Loops, round by round -/
def unrollL (Γ : Env) (pure : Bool) (tl : Tab) (n : Nat) : Nat → Loops
  | 0 => Loops.none
  | k + 1 => ⟨fun b fr H kx kr => den Γ (unrollL Γ pure tl n k) pure tl n (fun fr H => (unrollL Γ pure tl n k).loop b fr H kx kr) kx kr 10000 [.code b] fr H⟩

section
variable {P : Program} {E : Nat → Prop} {w0 ws w : World} {ρ0 ρ : List Pl} {H : Heap} {n : Nat} {fr : Fr} {a : Act} {tl : Tab} {Γ : Env} {Λ : Loops}

theorem unroll_ok (hm : P.follows .mixedOrders = true) (htl : TabOk P tl) (hΓ : EnvOk P Γ) {pure : Bool} {f : FuncId} {fn : Func} (hfn : P.funcs[f]? = some fn) :
    ∀ (k : Nat) (b : Code), LOk P f fn pure E w0 ws n ρ0 (unrollL Γ pure tl n k) b
  | 0, b => by intro kx kr r ρ H fr a w h; cases h
  | k + 1, b => by
    intro kx kr r ρ H fr a w h hs K R hx hr
    simp only [unrollL] at h
    refine den_ok (K := .inLoop b :: K) (items := [.code b]) hm htl hΓ hfn ?_ ?_ hr 10000 h hs fun b' _ => unroll_ok hm htl hΓ hfn k b'
    · intro ρ' H' fr' a' w' hs' h'
      exact Goes.step (fun b cs => step_inLoop) (unroll_ok hm htl hΓ hfn k b kx kr r ρ' H' fr' a' w' h' hs' K R hx hr)
    · intro id ρ' H' fr' a' w' hs' h'
      obtain ⟨k1, h1, h2⟩ := hx id ρ' H' fr' a' w' hs' h'
      exact ⟨k1, by simpa [exitTo] using h1, h2⟩
end

/-! ### Functions by their texts -/
abbrev Fns := List (Nat × Func)
def FnsOk (P : Program) (fs : Fns) : Prop := ∀ f fn, lk fs f = some fn → P.funcs[f]? = some fn ∧ (fn.name == "runtime.NumGoroutine") = false
theorem FnsOk.nil {P : Program} : FnsOk P [] := fun t ti h => by cases h
theorem FnsOk.cons {P : Program} {f : Nat} {fn : Func} {fs : Fns} (h : P.funcs[f]? = some fn) (h1 : (fn.name == "runtime.NumGoroutine") = false) (hs : FnsOk P fs) : FnsOk P ((f, fn) :: fs) := by
  intro f' fn' hl
  simp only [lk] at hl
  cases hb : Nat.beq f f' with
  | true =>
    have e : f = f' := Nat.eq_of_beq_eq_true hb
    subst e
    simp only [hb, cond_true, Option.some.injEq] at hl
    subst hl; exact ⟨h, h1⟩
  | false =>
    simp only [hb, cond_false] at hl
    exact hs f' fn' hl

def fin1 (tl : Tab) (ts : List ResultVar) (fr : Fr) (H : Heap) : Option (V × Heap) := match retV tl ts fr H with | some v => some (v, H) | none => none
def deadKept : Heap → Heap → Bool
  | [], _ => true
  | o :: r, o' :: r' => (bif o.isDead then o'.isDead else true) && deadKept r r'
  | _ :: _, [] => false
def callI (Γ : Env) (pure : Bool) (tl : Tab) (fn : Func) (xs : List V) (H : Heap) : Option (V × Heap) :=
  match fn.body with
  | some body => bif Nat.ble xs.length fn.ntmps then den Γ (unrollL Γ pure tl fn.ntmps 5000) pure tl fn.ntmps (fin1 tl fn.results.toList) (fun _ _ _ => none) (fin1 tl fn.results.toList) 10000 [.code body] (argFr 0 xs) H else none
  | _ => none
def inl (fs : Fns) (es : List Nat) (tl : Tab) (Γ : Env) : Nat → Env
  | 0 => Γ
  | d + 1 => ⟨fun pure f H xs k => match lk fs f with
    | some fn => match callI (inl fs es tl Γ d) pure tl fn xs H with
      | some (v, H') => match pure with
        | true => bif plainV v then k v H else none
        | false => bif deadKept H H' then k v H' else none
      | none => none
    | none => Γ.call pure f H xs k, Γ.ext, Γ.eqA, true, fun g => memN es g || Γ.eff g, Γ.mth, Γ.isC, Γ.callC⟩
/-- .. where not all numbers are known -/
def inlS (fs : Fns) (es : List Nat) (tl : Tab) (Γ : Env) : Nat → Env
  | 0 => Γ
  | d + 1 => ⟨fun pure f H xs k => match lk fs f with
    | some fn => match callI (inlS fs es tl Γ d) pure tl fn xs H with
      | some (v, H') => match pure with
        | true => bif plainV v then k v H else none
        | false => bif deadKept H H' then k v H' else none
      | none => none
    | none => Γ.call pure f H xs k, Γ.ext, Γ.eqA, false, fun g => memN es g || Γ.eff g, Γ.mth, Γ.isC, Γ.callC⟩

section
variable {P : Program} {E : Nat → Prop} {w0 w : World} {ρ : List Pl} {H H' : Heap} {tl : Tab} {Γ : Env}

theorem deadKept_ok : ∀ {H H' : Heap}, deadKept H H' = true → ∀ i, Gone H i → Gone H' i
  | [], H', h, i, hg => by simp [Gone] at hg
  | o :: r, o' :: r', h, i, hg => by
    simp only [deadKept, Bool.and_eq_true] at h
    match i with
    | 0 =>
      simp [Gone] at hg
      subst hg
      have := h.1
      simp only [AObj.isDead, cond_true] at this
      unfold Gone
      cases o' <;> first | rfl | cases this
    | i + 1 => simpa [Gone] using deadKept_ok h.2 i (by simpa [Gone] using hg)
  | _ :: _, [], h, i, hg => by simp [deadKept] at h

theorem argFr_lt : ∀ {xs : List V} {i t : Nat} {v : V}, lk (argFr i xs) t = some v → t < i + xs.length
  | [], i, t, v, h => by cases h
  | x :: xs, i, t, v, h => by
    simp only [argFr, lk_cons] at h
    split at h
    · rename_i e; subst e; simp
    · have := argFr_lt h; simp; omega

theorem callI_ok (hm : P.follows .mixedOrders = true) (htl : TabOk P tl) (hΓ : EnvOk P Γ) {pure : Bool} {f : FuncId} {fn : Func} (hfn : P.funcs[f]? = some fn) {xs : List V} {v : V} (h : callI Γ pure tl fn xs H = some (v, H'))
    {us : List Value} (hr : HRel E w0 ρ H w) (hus : VsRel ρ H xs us) :
    Calls P f us.toArray w fun e w' => ∃ u ρ', e = .returned u ∧ (∀ (i : Nat) (p : Pl), ρ[i]? = some p → ρ'[i]? = some p) ∧ HRel E w0 ρ' H' w' ∧ VRel ρ' H' v u ∧ (pure = true → ∃ k, w' = w.drewN k) := by
  unfold callI at h
  split at h
  case h_2 => cases h
  rename_i body hbody
  cases hn : Nat.ble xs.length fn.ntmps with
  | false => rw [hn] at h; cases h
  | true =>
  rw [hn] at h
  simp only [cond_true] at h
  have hn := Nat.le_of_ble_eq_true hn
  have hlen := hus.len
  let a0 : Act := { tmps := us.toArray ++ Array.replicate (fn.ntmps - us.toArray.size) undef, defers := [] }
  have hframe : FRel fn.ntmps ρ H (argFr 0 xs) a0 := by
    refine ⟨by simp [a0, hlen]; omega, rfl, fun t v hl => ?_, fun t v hl => by have := argFr_lt hl; omega⟩
    have h1 := argFr_lt hl
    have h2 := argFr_rel hus t v hl
    have : a0.tmps.getD t undef = us.getD t undef := by
      simp only [a0, Array.getD_eq_getD_getElem?, List.getD_eq_getElem?_getD]
      rw [Array.getElem?_append_left (by simp [hlen]; omega)]
      simp
    rw [this]; exact h2
  have hst : St pure E w0 w fn.ntmps ρ ρ H (argFr 0 xs) a0 w := ⟨fun _ _ h => h, hframe, hr, fun _ => ⟨0, rfl⟩⟩
  have fin : ∀ ρ2 H2 fr2 a2 w2, St pure E w0 w fn.ntmps ρ ρ2 H2 fr2 a2 w2 → fin1 tl fn.results.toList fr2 H2 = some (v, H') →
      Ends P fn a2 w2 fun u w' => ∃ ρ', (∀ (i : Nat) (p : Pl), ρ[i]? = some p → ρ'[i]? = some p) ∧ HRel E w0 ρ' H' w' ∧ VRel ρ' H' v u ∧ (pure = true → ∃ k, w' = w.drewN k) := by
    intro ρ2 H2 fr2 a2 w2 hs h'
    unfold fin1 at h'
    split at h'
    · rename_i v' hv
      cases h'
      obtain ⟨u, hrun, hu⟩ := retV_run (P := P) (w := w2) htl hs.heap.read rfl hv hs.frame
      exact ⟨u, hrun, ρ2, hs.pre, hs.heap, hu, hs.still⟩
    · cases h'
  have hgo := den_ok (K := []) (items := [.code body]) (ρ0 := ρ) hm htl hΓ hfn (R := fun u w' => ∃ ρ', (∀ (i : Nat) (p : Pl), ρ[i]? = some p → ρ'[i]? = some p) ∧ HRel E w0 ρ' H' w' ∧ VRel ρ' H' v u ∧ (pure = true → ∃ k, w' = w.drewN k))
    (fun ρ' H' fr' a' w' hs' h' => let ⟨u, h1, h2⟩ := fin ρ' H' fr' a' w' hs' h'; Goes.end_ hfn hs'.frame.defers h1 h2)
    (fun id ρ' H' fr' a' w' hs' h' => by cases h') fin 10000 h hst (fun b _ => unroll_ok hm htl hΓ hfn 5000 b)
  refine Calls.mono (calls_of_goes hfn hbody hgo) ?_
  rintro e w' ⟨u, rfl, ρ', h1, h2, h3, h4⟩
  exact ⟨u, ρ', rfl, h1, h2, h3, h4⟩

theorem EnvOk.inl (hm : P.follows .mixedOrders = true) (htl : TabOk P tl) (hΓ : EnvOk P Γ) {fs : Fns} (hfs : FnsOk P fs) (es : List Nat) : ∀ d, EnvOk P (Sx.inl fs es tl Γ d)
  | 0 => hΓ
  | d + 1 => by
    have ih := EnvOk.inl hm htl hΓ hfs es d
    refine ⟨fun pure f H xs k r h => ?_, hΓ.ext, hΓ.eqA, hΓ.mth, hΓ.okC⟩
    simp only [Sx.inl] at h
    split at h
    · rename_i fn hfn
      obtain ⟨h1, h2⟩ := hfs f fn hfn
      split at h
      · rename_i v H' hc
        have hb : fn.body.isNone = false := by
          unfold callI at hc
          split at hc
          · rename_i hb; rw [hb]; rfl
          · cases hc
        refine ⟨⟨fn, h1, h2, hb⟩, ?_⟩
        cases pure with
        | true =>
          simp only at h
          cases hp : plainV v with
          | false => rw [hp] at h; cases h
          | true =>
            rw [hp] at h
            refine ⟨v, H, h, .inl ⟨rfl, fun E w0 w ρ us hr hus => ⟨rawV v, plainV_ok hp, fun j => ?_⟩⟩⟩
            refine Calls.mono (callI_ok hm htl ih h1 hc (hr.drewN j) hus) ?_
            rintro e w' ⟨u, ρ', rfl, _, _, hu, hk⟩
            obtain ⟨m, rfl⟩ := hk rfl
            exact ⟨by rw [plainV_eq hp hu], j + m, by rw [World.drewN_drewN]⟩
        | false =>
          simp only at h
          cases hd : deadKept H H' with
          | false => rw [hd] at h; cases h
          | true =>
            rw [hd] at h
            refine ⟨v, H', h, .inr ⟨rfl, fun E w0 w ρ us hr hus => ?_⟩⟩
            refine Calls.mono (callI_ok hm htl ih h1 hc hr hus) ?_
            rintro e w' ⟨u, ρ', rfl, hp, hr', hu, _⟩
            exact ⟨u, ρ', rfl, ⟨hp, deadKept_ok hd⟩, hr', hu⟩
      · cases h
    · exact hΓ.ok pure f H xs k r h
theorem EnvOk.inlS (hm : P.follows .mixedOrders = true) (htl : TabOk P tl) (hΓ : EnvOk P Γ) {fs : Fns} (hfs : FnsOk P fs) (es : List Nat) : ∀ d, EnvOk P (Sx.inlS fs es tl Γ d)
  | 0 => hΓ
  | d + 1 => by
    have ih := EnvOk.inlS hm htl hΓ hfs es d
    refine ⟨fun pure f H xs k r h => ?_, hΓ.ext, hΓ.eqA, hΓ.mth, hΓ.okC⟩
    simp only [Sx.inlS] at h
    split at h
    · rename_i fn hfn
      obtain ⟨h1, h2⟩ := hfs f fn hfn
      split at h
      · rename_i v H' hc
        have hb : fn.body.isNone = false := by
          unfold callI at hc
          split at hc
          · rename_i hb; rw [hb]; rfl
          · cases hc
        refine ⟨⟨fn, h1, h2, hb⟩, ?_⟩
        cases pure with
        | true =>
          simp only at h
          cases hp : plainV v with
          | false => rw [hp] at h; cases h
          | true =>
            rw [hp] at h
            refine ⟨v, H, h, .inl ⟨rfl, fun E w0 w ρ us hr hus => ⟨rawV v, plainV_ok hp, fun j => ?_⟩⟩⟩
            refine Calls.mono (callI_ok hm htl ih h1 hc (hr.drewN j) hus) ?_
            rintro e w' ⟨u, ρ', rfl, _, _, hu, hk⟩
            obtain ⟨m, rfl⟩ := hk rfl
            exact ⟨by rw [plainV_eq hp hu], j + m, by rw [World.drewN_drewN]⟩
        | false =>
          simp only at h
          cases hd : deadKept H H' with
          | false => rw [hd] at h; cases h
          | true =>
            rw [hd] at h
            refine ⟨v, H', h, .inr ⟨rfl, fun E w0 w ρ us hr hus => ?_⟩⟩
            refine Calls.mono (callI_ok hm htl ih h1 hc hr hus) ?_
            rintro e w' ⟨u, ρ', rfl, hp, hr', hu, _⟩
            exact ⟨u, ρ', rfl, ⟨hp, deadKept_ok hd⟩, hr', hu⟩
      · cases h
    · exact hΓ.ok pure f H xs k r h

/-- A call without arguments that gives a plain value, and turns nothing that was there. -/
def Gives (P : Program) (f : FuncId) (v : V) : Prop := ∀ w : World, Calls P f #[] w fun e w' => e = .returned (rawV v) ∧ Kept (fun _ => False) w w'

theorem HRel.nil (E : Nat → Prop) (w : World) : HRel E w [] [] w := ⟨rfl, fun i p o h => by simp at h, fun i j p q o o' h => by simp at h, fun i p o h => by simp at h, Kept.refl _ _⟩

theorem gives_of (hm : P.follows .mixedOrders = true) (htl : TabOk P tl) (hΓ : EnvOk P Γ) {f : FuncId} {fn : Func} (hfn : P.funcs[f]? = some fn) {v : V} (h : callI Γ false tl fn [] [] = some (v, H')) (hp : plainV v = true) : Gives P f v := by
  intro w
  refine Calls.mono (callI_ok (E := fun _ => False) (us := []) hm htl hΓ hfn h (HRel.nil _ w) .nil) ?_
  rintro e w' ⟨u, ρ', rfl, _, hr, hu, _⟩
  exact ⟨by rw [plainV_eq hp hu], hr.kept⟩

theorem HRel.keeps (h : HRel E w0 ρ H w) {w' : World} (k : Kept (fun _ => False) w w') : HRel E w0 ρ H w' := by
  refine ⟨h.len, fun i p o hp ho => ?_, h.inj, h.own, h.kept.trans ⟨k.os, k.tape, k.output, k.size, fun i hi _ => k.block i hi fun h => h⟩⟩
  have hob := h.obj i p o hp ho
  cases hrl : p.real with
  | false => exact hob.virt (Ext.refl _ _) hrl
  | true =>
    cases hd : o.isDead with
    | true => cases o <;> first | (cases hd; done) | trivial
    | false => exact hob.ext (Ext.refl _ _) (k.block _ (real_lt hrl hd hob) fun h => h)

def Env.addK (Γ : Env) (f : FuncId) (v : V) : Env :=
  ⟨fun p g H xs k => bif Nat.beq g f then (match p, xs with | false, [] => k v H | _, _ => Option.none) else Γ.call p g H xs k, Γ.ext, Γ.eqA, Γ.force, fun g => bif Nat.beq g f then true else Γ.eff g, Γ.mth, Γ.isC, Γ.callC⟩
theorem EnvOk.addK (hΓ : EnvOk P Γ) {f : FuncId} (hf : FnOk P f) {v : V} (hp : plainV v = true) (hg : Gives P f v) : EnvOk P (Γ.addK f v) := by
  refine ⟨fun p g H xs k r h => ?_, hΓ.ext, hΓ.eqA, hΓ.mth, hΓ.okC⟩
  simp only [Env.addK] at h
  cases hb : Nat.beq g f with
  | false => rw [hb] at h; exact hΓ.ok p g H xs k r h
  | true =>
    rw [hb] at h
    simp only [cond_true] at h
    have e := Nat.eq_of_beq_eq_true hb
    subst e
    refine ⟨hf, ?_⟩
    split at h
    · refine ⟨v, H, h, .inr ⟨rfl, fun E w0 w ρ us hr hus => ?_⟩⟩
      cases hus
      refine Calls.mono (hg w) ?_
      rintro e w' ⟨rfl, hk⟩
      exact ⟨_, ρ, rfl, Ext.refl _ _, hr.keeps hk, plainV_ok hp⟩
    · cases h

/-! ### math/bits.Add64 has no text -/
def addLo (x y c : Int) : Int := (x + y + c) % 18446744073709551616
def addHi (x y c : Int) : Int := (x + y + c) / 18446744073709551616
def ext64 : List V → Option (V × Bool)
  | [.at (.raw (.int .u64 x)), .at (.raw (.int .u64 y)), .at (.raw (.int .u64 (.ofNat 0)))] => some (.tup [.at (.raw (.int .u64 (addLo x y 0))), .at (.raw (.int .u64 (addHi x y 0)))], decide (0 ≤ x ∧ 0 ≤ y))
  | _ => none
def Env.addX (Γ : Env) (f : FuncId) : Env := ⟨Γ.call, fun g xs => bif Nat.beq g f then ext64 xs else Γ.ext g xs, Γ.eqA, Γ.force, Γ.eff, Γ.mth, Γ.isC, Γ.callC⟩
theorem EnvOk.addX (hΓ : EnvOk P Γ) {f : FuncId} {fn : Func} (hf : P.funcs[f]? = some fn) (hname : (fn.name == "runtime.NumGoroutine") = false) (hb : fn.body.isNone = true) (hn : Extern.findNext fn = Option.none) (he : Extern.find fn = some add64Entry) : EnvOk P (Γ.addX f) := by
  refine ⟨hΓ.ok, fun g xs v c h hc ρ H us hus => ?_, hΓ.eqA, hΓ.mth, hΓ.okC⟩
  simp only [Env.addX] at h
  cases hbq : Nat.beq g f with
  | false => rw [hbq] at h; exact hΓ.ext g xs v c h hc ρ H us hus
  | true =>
    rw [hbq] at h
    simp only [cond_true] at h
    have e := Nat.eq_of_beq_eq_true hbq
    subst e
    unfold ext64 at h
    split at h
    · rename_i x y
      cases h
      obtain ⟨h1, h2⟩ := of_decide_eq_true hc
      cases hus with
      | cons a0 hus => cases hus with
        | cons a1 hus => cases hus with
          | cons a2 hus =>
            cases hus
            simp only [VRel, ARel] at a0 a1 a2
            subst a0 a1 a2
            refine ⟨.tuple #[.int .u64 (addLo x y 0), .int .u64 (addHi x y 0)], ⟨_, rfl, rfl, fun j w u hw hu => ?_⟩, fun w => ?_⟩
            · match j with
              | 0 => simp at hw hu; subst hw hu; rfl
              | 1 => simp at hw hu; subst hw hu; rfl
              | j + 2 => simp at hw
            · rw [run_callFunc_extern hf hname hb hn he]
              rw [show ([Value.int .u64 x, .int .u64 y, .int .u64 (.ofNat 0)] : List Value).toArray = #[.int .u64 x, .int .u64 y, .int .u64 0] from rfl, run_add64 x y 0 h1 h2 (by decide) (by decide)]
              rfl
    · cases h
/-! ### internal/bytealg.IndexByteString has no text -/
def idxB : List UInt8 → UInt8 → Nat → Int
  | [], _, _ => -1
  | b :: r, c, i => bif b == c then (i : Int) else idxB r c (i + 1)
def extIdx : List V → Option (V × Bool)
  | [.at (.raw (.string s)), .at (.raw (.int .u8 b))] => some (.at (.raw (.int .i64 (idxB s.data.toList b.toNat.toUInt8 0))), true)
  | _ => none
theorem idxB_find (s : ByteArray) (c : UInt8) : ∀ (m k : Nat), k + m = s.size → idxB (s.data.toList.drop k) c k = (match (List.range' k m).find? fun i => s[i]! == c with | some i => (i : Int) | Option.none => -1)
  | 0, k, h => by
    have : s.data.toList.drop k = [] := List.drop_eq_nil_of_le (by simp; omega)
    rw [this]; rfl
  | m + 1, k, h => by
    have hk : k < s.data.toList.length := by simp; omega
    rw [List.drop_eq_getElem_cons hk, List.range'_succ, List.find?_cons]
    have hg : s[k]! = s.data.toList[k] := by
      have hk' : k < s.size := by omega
      rw [getElem!_pos s k hk']
      rfl
    rw [hg]
    unfold idxB
    cases s.data.toList[k] == c with
    | true => rfl
    | false => exact idxB_find s c m (k + 1) (by omega)
def Env.addI (Γ : Env) (f : FuncId) : Env := ⟨Γ.call, fun g xs => bif Nat.beq g f then extIdx xs else Γ.ext g xs, Γ.eqA, Γ.force, Γ.eff, Γ.mth, Γ.isC, Γ.callC⟩
theorem EnvOk.addI (hΓ : EnvOk P Γ) {f : FuncId} {fn : Func} (hf : P.funcs[f]? = some fn) (hname : (fn.name == "runtime.NumGoroutine") = false) (hb : fn.body.isNone = true) (hn : Extern.findNext fn = Option.none) (he : Extern.find fn = some Extern.BytealgIndexByte.indexByte) : EnvOk P (Γ.addI f) := by
  refine ⟨hΓ.ok, fun g xs v c h hc ρ H us hus => ?_, hΓ.eqA, hΓ.mth, hΓ.okC⟩
  simp only [Env.addI] at h
  cases hbq : Nat.beq g f with
  | false => rw [hbq] at h; exact hΓ.ext g xs v c h hc ρ H us hus
  | true =>
    rw [hbq] at h
    simp only [cond_true] at h
    have e := Nat.eq_of_beq_eq_true hbq
    subst e
    unfold extIdx at h
    split at h
    · rename_i s b
      cases h
      cases hus with
      | cons a0 hus => cases hus with
        | cons a1 hus =>
            cases hus
            simp only [VRel, ARel] at a0 a1
            subst a0 a1
            refine ⟨.int .i64 (idxB s.data.toList b.toNat.toUInt8 0), rfl, fun w => ?_⟩
            rw [run_callFunc_extern hf hname hb hn he]
            have hfd := idxB_find s b.toNat.toUInt8 s.size 0 (by omega)
            rw [List.drop_zero] at hfd
            have key : (Extern.BytealgIndexByte.indexByte #[.string s, .int .u8 b]).run P w = .ok (.int .i64 (idxB s.data.toList b.toNat.toUInt8 0)) w := by
              have h0 : Extern.BytealgIndexByte.indexByte #[.string s, .int .u8 b] = (do
                  let b' ← Extern.Bytes.bytesOf (.string s)
                  let c ← Extern.Bytes.asByte (.int .u8 b)
                  match (List.range b'.size).find? fun i => b'[i]! == c with
                  | some i => pure (goInt i)
                  | Option.none => pure (goInt (-1))) := rfl
              rw [hfd, h0]
              simp only [Extern.Bytes.bytesOf, Extern.Bytes.asByte, Sem.run_bind, Sem.run_pure, Result.andThen_ok, List.range_eq_range']
              split <;> rfl
            rw [show ([Value.string s, .int .u8 b] : List Value).toArray = #[.string s, .int .u8 b] from rfl, key]
            rfl
    · cases h
/-! ### == of structs and arrays of numbers -/
def eqL : List Int → List Int → Bool
  | [], [] => true
  | a :: r, b :: s => bif a == b then eqL r s else false
  | _, _ => false
def rawInts : List IntKind → List A → Option (List Int)
  | [], [] => some []
  | k :: ks, .raw (.int k' n) :: r => bif decide (k = k') then (match rawInts ks r with | some l => some (n :: l) | none => none) else none
  | _, _ => none
def intVals : List IntKind → List Int → List Value
  | k :: ks, n :: r => .int k n :: intVals ks r
  | _, _ => []
def EqOk (P : Program) (t : TypeId) (ks : List IntKind) : Prop := ∀ (l l' : List Int), l.length = ks.length → l'.length = ks.length → ∀ (x y : Operand) (w : World),
  (do eqGuard .eql t x y (.agg (intVals ks l).toArray) (.agg (intVals ks l').toArray); binOp .eql t (.agg (intVals ks l).toArray) (.agg (intVals ks l').toArray) : Sem Value).run P w = .ok (.bool (eqL l l')) w ∧
  (do eqGuard .neq t x y (.agg (intVals ks l).toArray) (.agg (intVals ks l').toArray); binOp .neq t (.agg (intVals ks l).toArray) (.agg (intVals ks l').toArray) : Sem Value).run P w = .ok (.bool (!(eqL l l'))) w
def Env.addEq (Γ : Env) (t : TypeId) (ks : List IntKind) : Env :=
  ⟨Γ.call, Γ.ext, fun u as bs => bif Nat.beq u t then (match rawInts ks as, rawInts ks bs with | some l, some l' => some (eqL l l') | _, _ => Option.none) else Γ.eqA u as bs, Γ.force, Γ.eff, Γ.mth, Γ.isC, Γ.callC⟩
theorem rawInts_rel {ρ : List Pl} {H : Heap} : ∀ {ks : List IntKind} {as : List A} {l : List Int} {us : List Value}, rawInts ks as = some l → AsRel ρ H as us → l.length = ks.length ∧ us = intVals ks l
  | [], [], l, us, h, hu => by
    simp only [rawInts, Option.some.injEq] at h
    subst h
    exact ⟨rfl, List.eq_nil_of_length_eq_zero hu.1⟩
  | k :: ks, a :: r, l, us, h, hu => by
    unfold rawInts at h
    split at h
    · rename_i e; cases e
    · rename_i k1 ks1 k' n r1 e1 e2
      cases e1; cases e2
      by_cases hk : k = k'
      · subst hk
        simp only [decide_true, cond_true] at h
        split at h
        · rename_i l1 hl
          cases h
          cases us with
          | nil => have := hu.1; simp at this
          | cons u us =>
            have h0 := hu.2 0 _ u rfl rfl
            simp only [ARel] at h0
            obtain ⟨i1, i2⟩ := rawInts_rel hl (us := us) ⟨by have := hu.1; simpa using this, fun j b v hb hv => hu.2 (j + 1) b v (by simpa using hb) (by simpa using hv)⟩
            exact ⟨by simp [i1], by rw [h0, i2]; rfl⟩
        · cases h
      · simp [hk] at h
    · cases h
  | [], _ :: _, l, us, h, hu => by simp [rawInts] at h
  | _ :: _, [], l, us, h, hu => by simp [rawInts] at h
theorem EnvOk.addEq (hΓ : EnvOk P Γ) {t : TypeId} {ks : List IntKind} (he : EqOk P t ks) : EnvOk P (Γ.addEq t ks) := by
  refine ⟨hΓ.ok, hΓ.ext, fun u as bs b h ρ H us vs hu hv x y w => ?_, hΓ.mth, hΓ.okC⟩
  simp only [Env.addEq] at h
  cases hb : Nat.beq u t with
  | false => rw [hb] at h; exact hΓ.eqA u as bs b h ρ H us vs hu hv x y w
  | true =>
    rw [hb] at h
    simp only [cond_true] at h
    have e := Nat.eq_of_beq_eq_true hb
    subst e
    split at h
    · rename_i l l' h1 h2
      cases h
      obtain ⟨a1, a2⟩ := rawInts_rel h1 hu
      obtain ⟨b1, b2⟩ := rawInts_rel h2 hv
      rw [a2, b2]
      exact he l l' a1 b1 x y w
    · cases h
end
end Go.Sx
namespace Go.Sx.T
/-- Rounds enough for any loop. -/
def top : Nat := 1000000000000000000000000
def fb (f : Func) : Code := match f.body with | some c => c | none => .skip
def bodyAt (c : Code) (i : Nat) : Code := match (loopsOf c)[i]? with | some b => b | none => .skip
end Go.Sx.T

noncomputable section
namespace Go.Sx
open Go

def OwnB (ρ : List Pl) (H : Heap) (k : Nat) : Prop := ∃ (i : Nat) (p : Pl) (o : AObj), ρ[i]? = some p ∧ H[i]? = some o ∧ o.mut = true ∧ p.real = true ∧ p.blk = k

section
variable {P : Program} {E : Nat → Prop} {w0 w w' : World} {ρ ρ' : List Pl} {H H' : Heap}

theorem HRel.rebase (h : HRel E w0 ρ H w) : HRel (OwnB ρ H) w ρ H w :=
  ⟨h.len, h.obj, h.inj, fun i p o hp ho hm hr => .inl ⟨i, p, o, hp, ho, hm, hr, rfl⟩, Kept.refl _ _⟩

theorem HRel.unbase (h : HRel E w0 ρ H w) (k : HRel (OwnB ρ H) w ρ' H' w') : HRel E w0 ρ' H' w' := by
  have own : ∀ b, OwnB ρ H b → E b ∨ w0.heap.size ≤ b := by
    rintro b ⟨i, p, o, hp, ho, hm, hr, rfl⟩
    exact h.own i p o hp ho hm hr
  have a := h.kept
  have b := k.kept
  refine ⟨k.len, k.obj, k.inj, ?_, ⟨b.os.trans a.os, b.tape.trans a.tape, b.output.trans a.output, Nat.le_trans a.size b.size, ?_⟩⟩
  · intro i p o hp ho hm hr
    rcases k.own i p o hp ho hm hr with h1 | h1
    · exact own _ h1
    · exact .inr (Nat.le_trans a.size h1)
  · intro x hx he
    refine (b.block x (Nat.lt_of_lt_of_le hx a.size) fun ho => ?_).trans (a.block x hx he)
    rcases own x ho with h1 | h1
    · exact he h1
    · omega

/-- Where no object lies. -/
def Free (ρ : List Pl) (H : Heap) (b : Nat) : Prop := ∀ (i : Nat) (p : Pl) (o : AObj), ρ[i]? = some p → H[i]? = some o → o.isDead = false → p.real = true → p.blk ≠ b

theorem HRel.aside (h : HRel E w0 ρ H w) {b : Nat} (hf : Free ρ H b) (hb : w0.heap.size ≤ b) (hos : w'.os = w.os) (htp : w'.tape = w.tape) (hou : w'.output = w.output)
    (hsz : w.heap.size ≤ w'.heap.size) (hh : ∀ k, k < w.heap.size → k ≠ b → w'.heap[k]? = w.heap[k]?) : HRel E w0 ρ H w' := by
  refine ⟨h.len, ?_, h.inj, h.own, ⟨hos.trans h.kept.os, htp.trans h.kept.tape, hou.trans h.kept.output, Nat.le_trans h.kept.size hsz, ?_⟩⟩
  · intro i p o hp ho
    have ho' := h.obj i p o hp ho
    cases hd : o.isDead with
    | true =>
      cases o <;> simp [AObj.isDead] at hd
      trivial
    | false =>
      cases hr : p.real with
      | false => exact ho'.virt (Ext.refl ρ H) hr
      | true => exact ho'.ext (Ext.refl ρ H) (hh _ (real_lt hr hd ho') (hf i p o hp ho hd hr))
  · intro k hk he
    exact (hh k (Nat.lt_of_lt_of_le hk h.kept.size) (by omega)).trans (h.kept.block k hk he)

theorem free_new (h : HRel E w0 ρ H w) {b : Nat} (hb : w.heap.size ≤ b) : Free ρ H b := by
  intro i p o hp ho hd hr he
  have := real_lt hr hd (h.obj i p o hp ho)
  omega

/-! ### The iterator -/
def putIt (w : World) (b : Nat) (o : Obj) : World := { w with heap := w.heap.setIfInBounds b o }

theorem putIt_get {b k : Nat} {o : Obj} : (putIt w b o).heap[k]? = if k = b then (if k < w.heap.size then some o else none) else w.heap[k]? := by
  show (w.heap.setIfInBounds b o)[k]? = _
  rw [Array.getElem?_setIfInBounds]
  by_cases hk : k = b
  · subst hk; simp
  · simp [hk, Ne.symm hk]

theorem next_run {b mb since c0 clock : Nat} {seen : Array Nat} {es : Array MapEntry} (ty : TypeId)
    (hb : w.heap[b]? = some (.mapIter (some mb) since seen c0)) (hm : w.heap[mb]? = some (.map es clock)) (hold : ∀ x ∈ es.toList, x.born < since) (hsc : since ≤ c0) :
    ((leftOf es seen).size = 0 ∧ (Instr.next (.pointer (some ⟨b, 0, none⟩)) false ty).run P w = .ok (.tuple #[.bool false]) w) ∨
    ∃ e ∈ (leftOf es seen).toList, ∃ k, (Instr.next (.pointer (some ⟨b, 0, none⟩)) false ty).run P w = .ok (.tuple #[.bool true, e.key, e.val]) (putIt (w.drewN k) b (.mapIter (some mb) since (seen.push e.born) clock)) := by
  simp only [Instr.next, getObj, Sem.run_bind, Sem.run, hb, hm, Result.andThen, next_test_false seen es since c0 hold hsc, Bool.false_eq_true, if_false]
  unfold leftOf
  have hmem : ∀ x ∈ (Array.filter (fun e => !seen.contains e.born) es).toList, x.born < since := fun x hx => hold x (by simp at hx ⊢; exact hx.1)
  generalize Array.filter (fun e => !seen.contains e.born) es = L at hmem ⊢
  have e1 : L.filter (fun x => decide (x.born < since)) = L := Array.filter_eq_self.2 (fun x hx => by simpa using hmem x (by simpa using hx))
  have e2 : L.filter (fun x => decide (x.born ≥ since)) = #[] := by
    rw [Array.filter_eq_empty_iff]
    intro x hx
    have := hmem x (by simpa using hx)
    simp
    omega
  simp only [e1, e2, Array.append_empty]
  by_cases h0 : L.size = 0
  · left
    have : L = #[] := Array.eq_empty_of_size_eq_zero h0
    subst this
    refine ⟨rfl, ?_⟩
    simp [choose, Sem.run, Question.forced]
  · right
    have hne : L.isEmpty = false := by simp [Array.isEmpty, h0]
    simp only [hne, Bool.false_eq_true, if_false, Array.empty_append, Array.size_map]
    have hch : ∃ (j k : Nat), j < L.size ∧ (choose (Question.mapNext L.size)).run P w = .ok j (w.drewN k) := by
      by_cases hf : L.size ≤ 1
      · exact ⟨0, 0, by omega, by simp [choose, Sem.run, Question.forced, hf, World.drewN_zero]⟩
      · exact ⟨_, 1, Nat.mod_lt _ (by omega), by
          simp only [choose, Sem.run, Question.forced, decide_eq_true_eq, hf, if_false, Question.cut]
          rfl⟩
    obtain ⟨j, k, hj, hrun⟩ := hch
    refine ⟨L[j], by simp, k, ?_⟩
    have hset : ∀ o' : Obj, (setObj b o').run P (w.drewN k) = .ok () (putIt (w.drewN k) b o') := fun o' => by
      have : (w.drewN k).heap[b]? = some (.mapIter (some mb) since seen c0) := hb
      simp only [setObj, Sem.run, this]
      rfl
    simp only [hrun, Array.getElem?_map, Array.getElem?_eq_getElem hj, Option.map_some, Sem.run_bind, hset, Result.andThen]
    rfl

theorem entry_run {b mb since clock : Nat} {seen : Array Nat} {es : Array MapEntry} {e : MapEntry}
    (hb : w.heap[b]? = some (.mapIter (some mb) since (seen.push e.born) clock)) (hm : w.heap[mb]? = some (.map es clock)) (he : e ∈ es.toList) (hn : (es.toList.map (·.born)).Nodup) :
    (Instr.entry (.pointer (some ⟨b, 0, none⟩))).run P w = .ok (.tuple #[e.key, e.val]) w := by
  have hf : es.find? (·.born == e.born) = some e := by rw [← Array.find?_toList]; exact find_born e es.toList hn he
  simp only [Instr.entry, getObj, Sem.run_bind, Sem.run, hb, hm, Result.andThen, Array.back?_push, bne_self_eq_false, Bool.false_eq_true, if_false, hf]
  rfl

/-! ### What is left of a map -/
def mfK (d : Int → Bool) : List Int → List Int
  | [] => []
  | k :: r => bif d k then mfK d r else k :: mfK d r
def mfV {α : Type} (d : Int → Bool) : List Int → List α → List α
  | k :: r, v :: s => bif d k then mfV d r s else v :: mfV d r s
  | _, _ => []
def mfC (d : Int → Bool) (ks : List Int) : Col → Col
  | .int k l => .int k (mfV d ks l)
  | .bool l => .bool (mfV d ks l)
  | c => c
def mdelC (ks : List Int) (n : Int) : Col → Col
  | .int k l => .int k (mdelV ks l n)
  | .bool l => .bool (mdelV ks l n)
  | c => c
def okC : Col → Bool
  | .int .. | .bool _ => true
  | _ => false

theorem mfK_congr {d d' : Int → Bool} : ∀ {ks : List Int}, (∀ k ∈ ks, d k = d' k) → mfK d ks = mfK d' ks
  | [], _ => rfl
  | k :: r, h => by
    simp only [mfK, h k (by simp), mfK_congr (ks := r) fun k hk => h k (by simp [hk])]
theorem mfV_congr {α : Type} {d d' : Int → Bool} : ∀ {ks : List Int} {l : List α}, (∀ k ∈ ks, d k = d' k) → mfV d ks l = mfV d' ks l
  | [], _, _ => by simp [mfV]
  | k :: r, [], h => by simp [mfV]
  | k :: r, v :: s, h => by
    simp only [mfV, h k (by simp), mfV_congr (ks := r) (l := s) fun k hk => h k (by simp [hk])]
theorem mfC_congr {d d' : Int → Bool} {ks : List Int} {c : Col} (h : ∀ k ∈ ks, d k = d' k) : mfC d ks c = mfC d' ks c := by
  cases c <;> simp [mfC, mfV_congr h]
theorem mfK_all {ks : List Int} : mfK (fun _ => false) ks = ks := by
  induction ks with
  | nil => rfl
  | cons k r ih => simp [mfK, ih]
theorem mfV_all {α : Type} : ∀ {ks : List Int} {l : List α}, l.length = ks.length → mfV (fun _ => false) ks l = l
  | [], [], _ => rfl
  | k :: r, v :: s, h => by simp [mfV, mfV_all (ks := r) (l := s) (by simpa using h)]
theorem mfC_all {ks : List Int} {c : Col} (h : c.len = ks.length) (hc : okC c = true) : mfC (fun _ => false) ks c = c := by
  cases c <;> simp [okC] at hc <;> simp only [mfC, Col.len] at h ⊢ <;> rw [mfV_all h]
theorem mfV_len {α : Type} {d : Int → Bool} : ∀ {ks : List Int} {l : List α}, l.length = ks.length → (mfV d ks l).length = (mfK d ks).length
  | [], [], _ => rfl
  | k :: r, v :: s, h => by
    have := mfV_len (d := d) (ks := r) (l := s) (by simpa using h)
    simp only [mfV, mfK]
    cases d k <;> simp [this]
theorem mem_mfK {d : Int → Bool} {n : Int} : ∀ {ks : List Int}, n ∈ mfK d ks ↔ n ∈ ks ∧ d n = false
  | [] => by simp [mfK]
  | k :: r => by
    have ih := mem_mfK (d := d) (n := n) (ks := r)
    simp only [mfK]
    cases hk : d k with
    | true =>
      simp only [cond_true, ih, List.mem_cons]
      constructor
      · rintro ⟨a, b⟩; exact ⟨.inr a, b⟩
      · rintro ⟨rfl | a, b⟩
        · rw [hk] at b; cases b
        · exact ⟨a, b⟩
    | false =>
      simp only [cond_false, List.mem_cons, ih]
      constructor
      · rintro (rfl | ⟨a, b⟩)
        · exact ⟨.inl rfl, hk⟩
        · exact ⟨.inr a, b⟩
      · rintro ⟨rfl | a, b⟩
        · exact .inl rfl
        · exact .inr ⟨a, b⟩
theorem mfK_nodup {d : Int → Bool} : ∀ {ks : List Int}, ks.Nodup → (mfK d ks).Nodup
  | [], _ => List.nodup_nil
  | k :: r, h => by
    have h1 := List.nodup_cons.1 h
    simp only [mfK]
    cases d k with
    | true => exact mfK_nodup h1.2
    | false => exact List.nodup_cons.2 ⟨fun hm => h1.1 (mem_mfK.1 hm).1, mfK_nodup h1.2⟩
theorem mdel_cons {α : Type} {k n : Int} {v : α} {ks : List Int} {l : List α} (h : k ≠ n) : mdelK (k :: ks) n = k :: mdelK ks n ∧ mdelV (k :: ks) (v :: l) n = v :: mdelV ks l n := by
  have hb : (k == n) = false := by simpa using h
  simp only [mdelK, mdelV, mhas, midx, hb, cond_false]
  cases mhas ks n <;> simp
theorem mdel_same {α : Type} {n : Int} {v : α} {ks : List Int} {l : List α} : mdelK (n :: ks) n = ks ∧ mdelV (n :: ks) (v :: l) n = l := by
  simp [mdelK, mdelV, mhas, midx]
theorem mfK_del {d : Int → Bool} {n : Int} : ∀ {ks : List Int}, ks.Nodup → n ∈ ks → d n = false → mdelK (mfK d ks) n = mfK (fun k => d k || k == n) ks
  | [], _, h, _ => by simp at h
  | k :: r, hn, hm, hd => by
    have h1 := List.nodup_cons.1 hn
    by_cases hk : k = n
    · subst hk
      simp only [mfK, hd, cond_false, beq_self_eq_true, Bool.or_true, cond_true]
      rw [(mdel_same (α := Unit) (v := ()) (l := [])).1]
      exact mfK_congr fun x hx => by
        have : x ≠ k := fun e => h1.1 (e ▸ hx)
        simp [this]
    · have hb : (k == n) = false := by simpa using hk
      have hr : n ∈ r := by simpa [Ne.symm hk] using hm
      simp only [mfK, hb, Bool.or_false]
      cases d k with
      | true => exact mfK_del h1.2 hr hd
      | false => simp only [cond_false]; rw [(mdel_cons (α := Unit) (v := ()) (l := []) hk).1, mfK_del h1.2 hr hd]
theorem mfV_del {α : Type} {d : Int → Bool} {n : Int} : ∀ {ks : List Int} {l : List α}, l.length = ks.length → ks.Nodup → n ∈ ks → d n = false → mdelV (mfK d ks) (mfV d ks l) n = mfV (fun k => d k || k == n) ks l
  | [], _, _, _, h, _ => by simp at h
  | k :: r, [], hl, _, _, _ => by simp at hl
  | k :: r, v :: s, hl, hn, hm, hd => by
    have h1 := List.nodup_cons.1 hn
    have hl' : s.length = r.length := by simpa using hl
    by_cases hk : k = n
    · subst hk
      simp only [mfK, mfV, hd, cond_false, beq_self_eq_true, Bool.or_true, cond_true]
      rw [mdel_same.2]
      exact mfV_congr fun x hx => by
        have : x ≠ k := fun e => h1.1 (e ▸ hx)
        simp [this]
    · have hb : (k == n) = false := by simpa using hk
      have hr : n ∈ r := by simpa [Ne.symm hk] using hm
      simp only [mfK, mfV, hb, Bool.or_false]
      cases d k with
      | true => exact mfV_del hl' h1.2 hr hd
      | false => simp only [cond_false]; rw [(mdel_cons hk).2, mfV_del hl' h1.2 hr hd]
theorem mfC_del {d : Int → Bool} {n : Int} {ks : List Int} {c : Col} (hl : c.len = ks.length) (hn : ks.Nodup) (hm : n ∈ ks) (hd : d n = false) : mdelC (mfK d ks) n (mfC d ks c) = mfC (fun k => d k || k == n) ks c := by
  cases c <;> simp only [mfC, mdelC, Col.len] at hl ⊢ <;> rw [mfV_del hl hn hm hd]
theorem mfC_ok {d : Int → Bool} {ks : List Int} {c : Col} (h : okC c = true) : okC (mfC d ks c) = true := by cases c <;> simp_all [mfC, okC]
end

/-! ### The loop -/
theorem FRel.sub {N : Nat} {ρ : List Pl} {H : Heap} {fr fr' : Fr} {a : Act} (h : FRel N ρ H fr a) (hs : ∀ t v, lk fr' t = some v → lk fr t = some v) : FRel N ρ H fr' a :=
  ⟨h.size, h.defers, fun t v hl => h.slot t v (hs t v hl), fun t v hl => h.lt t v (hs t v hl)⟩
theorem pl_same {ρ ρ' : List Pl} (h : ∀ (i : Nat) (p : Pl), ρ[i]? = some p → ρ'[i]? = some p) (hl : ρ'.length = ρ.length) : ρ' = ρ := by
  apply List.ext_getElem? 
  intro i
  cases hi : ρ[i]? with
  | some p => exact h i p hi
  | none =>
    rw [List.getElem?_eq_none_iff] at hi ⊢
    omega

/-- The loop's text. -/
def rgB (i1 i2 i3 i4 bo bn more c : Nat) (onext oext oentry odel : Oper) (rest2 : List Oper) (ops3 : Array Oper) (pre4 : List Oper) : Code :=
  .seq (.region i1 #[onext, oext] false) (.seq (.cond (.tmp more) .skip (.exit bo)) (.block bn (.seq (.region i2 ⟨oentry :: rest2⟩ false) (.seq (.region i3 ops3 false) (.cond (.tmp c) (.region i4 ⟨pre4 ++ [odel]⟩ false) .skip)))))

structure RgOk (onext oext oentry odel : Oper) (it nx more pair : Nat) (mx kx : Operand) (mt kI : TypeId) : Prop where
  next : onext.op = .next (.tmp it) false
  next_d : onext.dst = some nx
  next_g : onext.guard = none
  ext : oext.op = .extract (.tmp nx) 0
  ext_d : oext.dst = some more
  ext_g : oext.guard = none
  entry : oentry.op = .entry (.tmp it)
  entry_d : oentry.dst = some pair
  entry_g : oentry.guard = none
  del : odel.op = .call { callee := .builtin .delete, args := #[mx, kx], argTypes := #[mt, kI] }
  del_d : odel.dst = none
  del_g : odel.guard = none

section
variable {P : Program} {E : Nat → Prop} {w0 ws w : World} {ρ0 ρ : List Pl} {H : Heap} {N : Nat} {fr : Fr} {a : Act} {tl : Tab} {Γ : Env}

theorem wp_one {ops : Array Oper} {Q : Exit → Act → World → Prop} {rest : List Oper} {o : Oper} (hg : o.guard = none) {u : Value} {w' : World} (hr : (execOp a.eval o).run P w = .ok (.value u) w') (h : wpList P ops Q rest (a.put o.dst u) w') : wpList P ops Q (o :: rest) a w :=
  wpList_step fun K hK => by
    rw [if_pos (by simp [Region.wanted, hg])]
    unfold Oper.wp
    rw [hr]
    exact hK _ _ h

theorem denOps_tail (htl : TabOk P tl) (hΓ : EnvOk P Γ) {pure : Bool} {ops : Array Oper} {Q : Exit → Act → World → Prop} {α : Type} {k : Fr → Heap → Option α} {r : α} {rest : List Oper} : ∀ (l : List Oper) {ρ : List Pl} {H : Heap} {fr : Fr} {a : Act} {w : World},
    denOps Γ pure tl N ops l fr H k = some r → St pure E w0 ws N ρ0 ρ H fr a w →
    (∀ ρ' H' fr' a' w', St pure E w0 ws N ρ0 ρ' H' fr' a' w' → k fr' H' = some r → wpList P ops Q rest a' w') → wpList P ops Q (l ++ rest) a w
  | [], ρ, H, fr, a, w, h, hs, hQ => hQ ρ H fr a w hs h
  | o :: l, ρ, H, fr, a, w, h, hs, hQ => by
    simp only [denOps] at h
    obtain ⟨fr1, hf1, h⟩ := denGuard_ok h hs.frame
    refine wpList_step fun K hK => ?_
    cases hw : Region.wanted o (yielded ops a.tmps) with
    | false =>
      rw [hw] at h
      simp only [cond_false] at h
      split at h
      · rename_i fr2 hp
        simp only [Bool.false_eq_true, if_false]
        exact hK _ _ (denOps_tail htl hΓ l h ⟨hs.pre, putFr_ok hp hf1 rfl, hs.heap, hs.still⟩ hQ)
      · cases h
    | true =>
      rw [hw] at h
      simp only [cond_true] at h
      simp only [if_true]
      cases hC : isCop Γ fr1 o.op with
      | true =>
        obtain ⟨rfl, f, args, hrun, hcall⟩ := denOp_okC hΓ hs.heap hf1 hC h
        unfold Oper.wp
        rw [hrun]
        refine Calls.mono hcall ?_
        rintro e w' ⟨v, H', u, ρ', hk, rfl, hx, hh, hu⟩
        split at hk
        · rename_i fr2 hp
          exact hK _ _ (denOps_tail htl hΓ l hk ⟨fun i p hi => hx.pl i p (hs.pre i p hi), putFr_ok hp (hf1.ext hx) hu, hh, fun hf => by (cases hf)⟩ hQ)
        · cases hk
      | false =>
      obtain ⟨v, H', h, hd⟩ := denOp_ok htl hΓ hs.heap hf1 hC h
      split at h
      · rename_i fr2 hp
        have go : ∀ {ρ' a' w'}, St pure E w0 ws N ρ0 ρ' H' fr2 a' w' → K a' w' := fun hs' =>
          hK _ _ (denOps_tail htl hΓ l h hs' hQ)
        rcases hd with ⟨rfl, u, hu, hrun⟩ | ⟨rfl, u, w', ρ', hrun, hx, hh, hu⟩ | ⟨rfl, f, args, hrun, hcall⟩
        · rcases hrun 0 with hr | ⟨f, args, hr, hcall⟩
          · rw [World.drewN_zero] at hr
            unfold Oper.wp
            rw [hr]
            exact go ⟨hs.pre, putFr_ok hp hf1 hu, hs.heap, hs.still⟩
          · rw [World.drewN_zero] at hr hcall
            unfold Oper.wp
            rw [hr]
            refine Calls.mono hcall ?_
            rintro e w' ⟨rfl, j, rfl⟩
            have := hs.drewN j
            exact go ⟨hs.pre, putFr_ok hp hf1 hu, this.heap, this.still⟩
        · have hst : St false E w0 ws N ρ0 ρ' H' fr2 (a.put o.dst u) w' := ⟨fun i p hi => hx.pl i p (hs.pre i p hi), putFr_ok hp (hf1.ext hx) hu, hh, fun hf => by (cases hf)⟩
          unfold Oper.wp
          rcases hrun with hr | ⟨hr, rfl⟩
          · rw [hr]; exact go hst
          · rw [hr]; exact go hst
        · unfold Oper.wp
          rw [hrun]
          refine Calls.mono hcall ?_
          rintro e w' ⟨u, ρ', rfl, hx, hh, hu⟩
          exact go ⟨fun i p hi => hx.pl i p (hs.pre i p hi), putFr_ok hp (hf1.ext hx) hu, hh, fun hf => by (cases hf)⟩
      · cases h

def ptrV (b : Nat) : V := .at (.raw (.pointer (some ⟨b, 0, none⟩)))

/-- What a round says. -/
def Round (Γ : Env) (tl : Tab) (N : Nat) (H : Heap) (id : Nat) (kt : IntKind) (ks : List Int) (del : Int → Bool) (fr2 : Fr) (it pair c : Nat) (i2ops : Array Oper) (rest2 : List Oper) (ops3 : Array Oper) (i4ops : Array Oper) (pre4 : List Oper) (mx kx : Operand) : Prop :=
  ∀ (ks' : List Int) (col' : Col) (n : Int) (i b : Nat), ks'[i]? = some n → n ∈ ks → ∃ fr4,
    denOps Γ true tl N i2ops rest2 ((pair, .tup [.at (.raw (.int kt n)), .at (col'.at i)]) :: (it, ptrV b) :: fr2) (H.set id (.map kt ks' col')) (fun fr3 H3 => denOps Γ true tl N ops3 ops3.toList fr3 H3 fun fr4 H4 => some (fr4, H4)) = some (fr4, H.set id (.map kt ks' col')) ∧
    ev fr4 (.tmp c) = .at (.raw (.bool (del n))) ∧ (∀ t v, lk ((it, ptrV b) :: fr2) t = some v → lk fr4 t = some v) ∧
    (del n = true → ∃ fr5, denOps Γ true tl N i4ops pre4 fr4 (H.set id (.map kt ks' col')) (fun fr5 H5 => some (fr5, H5)) = some (fr5, H.set id (.map kt ks' col')) ∧
      ev fr5 mx = .at (.map id) ∧ ev fr5 kx = .at (.raw (.int kt n)) ∧ (∀ t v, lk ((it, ptrV b) :: fr2) t = some v → lk fr5 t = some v))

/-- At the loop's head. -/
structure Hd (E : Nat → Prop) (w0 ws : World) (N : Nat) (ρ0 ρ : List Pl) (H : Heap) (id : Nat) (q : Pl) (kt : IntKind) (ks : List Int) (col : Col) (del : Int → Bool) (fr2 : Fr) (it b m : Nat) (D : Int → Bool) (a : Act) (w : World) : Prop where
  st : St false E w0 ws N ρ0 ρ (H.set id (.map kt (mfK D ks) (mfC D ks col))) ((it, ptrV b) :: fr2) a w
  sub : ∀ k ∈ ks, D k = true → del k = true
  it : ∃ (es : Array MapEntry) (seen : Array Nat) (clock : Nat), w.heap[b]? = some (.mapIter (some q.blk) clock seen clock) ∧ w.heap[q.blk]? = some (.map es clock) ∧
    (∀ e ∈ es.toList, ∀ k, e.key = .int kt k → seen.contains e.born = true → del k = false) ∧ (leftOf es seen).size ≤ m

theorem FRel.raw {fr : Fr} (h : FRel N ρ H fr a) {t : Nat} {u : Value} (hl : lk fr t = some (.at (.raw u))) : a.eval (.tmp t) = u := h.slot t (.at (.raw u)) hl
theorem lk_same {α : Type} {s : Nat} {x : α} {l : List (Nat × α)} : lk ((s, x) :: l) s = some x := by simp [lk]
theorem lk_other {α : Type} {s t : Nat} {x : α} {l : List (Nat × α)} (h : s ≠ t) : lk ((s, x) :: l) t = lk l t := by rw [lk_cons, if_neg h]

theorem mhas_nodup : ∀ {ks : List Int} {i : Nat} {n : Int}, ks.Nodup → ks[i]? = some n → mhas ks n = true ∧ midx ks n = i
  | [], i, n, _, h => by simp at h
  | k :: r, 0, n, _, h => by
    simp at h
    subst h
    simp [mhas, midx]
  | k :: r, i + 1, n, hn, h => by
    have h1 := List.nodup_cons.1 hn
    simp at h
    have hk : (k == n) = false := by
      have : k ≠ n := fun e => h1.1 (e ▸ List.mem_of_getElem? h)
      simpa using this
    have := mhas_nodup h1.2 h
    simp only [mhas, midx, hk, cond_false, this.1, this.2, and_self]
theorem rg_loop (htl : TabOk P tl) (hΓ : EnvOk P Γ) {f : FuncId} {i1 i2 i3 i4 bo bn more c it nx pair id b : Nat} {onext oext oentry odel : Oper} {rest2 : List Oper} {ops3 : Array Oper} {pre4 : List Oper} {mx kx : Operand} {mt kI et : TypeId}
    (ok : RgOk onext oext oentry odel it nx more pair mx kx mt kI) (hlt : nx < N ∧ more < N ∧ pair < N) (hne : it ≠ nx ∧ it ≠ more ∧ it ≠ pair ∧ nx ≠ more)
    {q : Pl} {kt : IntKind} {ks : List Int} {col : Col} {del : Int → Bool} {fr2 : Fr}
    (hq : ρ[id]? = some q) (hid : id < H.length) (hb : w0.heap.size ≤ b) (hfree : ∀ D, Free ρ (H.set id (.map kt (mfK D ks) (mfC D ks col))) b)
    (hcl : col.len = ks.length) (hnd : ks.Nodup) (hokc : okC col = true) (hkm : kd tl mt = some (.map kI et)) (hkk : kd tl kI = some (.int kt))
    (hfr : ∀ t v, lk fr2 t = some v → t ≠ it ∧ t ≠ nx ∧ t ≠ more ∧ t ≠ pair)
    (HR : Round Γ tl N H id kt ks del fr2 it pair c ⟨oentry :: rest2⟩ rest2 ops3 ⟨pre4 ++ [odel]⟩ pre4 mx kx)
    {K : List Item} {R : Value → World → Prop}
    (hK : ∀ a' w', St false E w0 ws N ρ0 ρ (H.set id (.map kt (mfK del ks) (mfC del ks col))) fr2 a' w' → Goes P f a' K w' R) :
    ∀ (m : Nat) (D : Int → Bool) (a : Act) (w : World), Hd E w0 ws N ρ0 ρ H id q kt ks col del fr2 it b m D a w →
      Goes P f a (.code (rgB i1 i2 i3 i4 bo bn more c onext oext oentry odel rest2 ops3 pre4) :: .inLoop (rgB i1 i2 i3 i4 bo bn more c onext oext oentry odel rest2 ops3 pre4) :: .inBlock bo :: K) w R := by
  intro m
  induction m using Nat.strongRecOn with
  | ind m ih =>
    intro D a w hd
    obtain ⟨es, seen, clock, hit, hmp, hseen, hsz⟩ := hd.it
    have hst := hd.st
    have hget : (H.set id (.map kt (mfK D ks) (mfC D ks col)))[id]? = some (.map kt (mfK D ks) (mfC D ks col)) := by rw [List.getElem?_set_self hid]
    obtain ⟨hqr, hcl', es', clock', hmp', hes, hkeys, hborn⟩ := hst.heap.obj id q _ hq hget
    rw [hmp] at hmp'
    cases hmp'
    have hptr : a.eval (.tmp it) = .pointer (some ⟨b, 0, none⟩) := hst.frame.raw lk_same
    have hold : ∀ x ∈ es.toList, x.born < clock := by
      intro x hx
      obtain ⟨i, hi⟩ := List.getElem?_of_mem hx
      exact (hkeys i x (by simpa using hi)).2.2
    have hitN : it < N := hst.frame.lt it (ptrV b) (by simp [lk, ptrV])
    refine Goes.step (fun b cs => step_seq) ?_
    refine Goes.code (wp_region_list ?_)
    show wpList P _ _ [onext, oext] a w
    rcases next_run (P := P) onext.type hit hmp hold (Nat.le_refl _) with ⟨hz, hrun⟩ | ⟨e, he, k, hrun⟩
    · -- nothing is left
      refine wp_one ok.next_g (u := .tuple #[.bool false]) (w' := w) ?_ ?_
      · unfold execOp; rw [ok.next]; simp [hptr, hrun]
      rw [ok.next_d]
      have f1 := hst.frame.put (d := nx) (v := .at (.raw (.tuple #[.bool false]))) (u := .tuple #[.bool false]) hlt.1 rfl
      have e1 : (a.put (some nx) (.tuple #[.bool false])).eval (.tmp nx) = .tuple #[.bool false] := f1.raw lk_same
      refine wp_one ok.ext_g (u := .bool false) (w' := w) ?_ ?_
      · unfold execOp; rw [ok.ext]; simp [e1, Instr.extract]
      rw [ok.ext_d]
      have f2 := f1.put (d := more) (v := .at (.raw (.bool false))) (u := .bool false) hlt.2.1 rfl
      refine wpList_nil ⟨rfl, ?_⟩
      have e2 : ((a.put (some nx) (.tuple #[.bool false])).put (some more) (.bool false)).eval (.tmp more) = .bool false := f2.raw lk_same
      refine Goes.step (fun b cs => step_seq) ?_
      refine Goes.step (fun b cs => step_cond (t := false) e2) ?_
      refine Goes.step (fun b cs => step_exit (k' := K) (by simp [exitTo])) ?_
      have heq : ∀ k ∈ ks, D k = del k := by
        intro k hk
        cases hDk : D k with
        | true => exact (hd.sub k hk hDk).symm
        | false =>
          have hmem : k ∈ mfK D ks := mem_mfK.2 ⟨hk, hDk⟩
          obtain ⟨i, hi⟩ := List.getElem?_of_mem hmem
          have hil : i < es.size := by rw [hes]; exact (List.getElem?_eq_some_iff.1 hi).1
          have hke := (hkeys i es[i] (Array.getElem?_eq_getElem hil)).1
          rw [List.getD_eq_getElem?_getD, hi, Option.getD_some] at hke
          cases hsn : seen.contains es[i].born with
          | true => exact (hseen es[i] (by simp) k hke hsn).symm
          | false =>
            exfalso
            have : es[i] ∈ leftOf es seen := Array.mem_filter.2 ⟨by simp, by rw [hsn]; rfl⟩
            have := Array.size_pos_of_mem this
            omega
      have hh := hst.heap
      rw [mfK_congr heq, mfC_congr heq] at hh f2
      refine hK _ _ ⟨hst.pre, FRel.sub f2 ?_, hh, fun h => by cases h⟩
      · intro t v hl
        obtain ⟨h1, h2, h3, h4⟩ := hfr t v hl
        rw [lk_other h3.symm, lk_other h2.symm, lk_other h1.symm]; exact hl
    · -- one comes out
      have hm1 : e ∈ es.toList ∧ seen.contains e.born = false := mem_left he
      obtain ⟨i, hi⟩ := List.getElem?_of_mem hm1.1
      have hi' : es[i]? = some e := by simpa using hi
      have hil : i < es.size := by
        rcases Nat.lt_or_ge i es.size with h | h
        · exact h
        · rw [Array.getElem?_eq_none h] at hi'; cases hi'
      obtain ⟨n, hn⟩ : ∃ n, (mfK D ks)[i]? = some n := ⟨(mfK D ks)[i]'(hes ▸ hil), List.getElem?_eq_getElem (hes ▸ hil)⟩
      obtain ⟨hke, hve, _⟩ := hkeys i e hi'
      rw [List.getD_eq_getElem?_getD, hn, Option.getD_some] at hke
      have hnm := mem_mfK.1 (List.mem_of_getElem? hn)
      have hbn : (es.toList.map (·.born)).Nodup := by
        refine List.pairwise_iff_getElem.2 fun x y hx hy hxy hc => ?_
        have hx' : x < es.size := by simpa using hx
        have hy' : y < es.size := by simpa using hy
        have e1 := hborn x y es[x] es[y] (Array.getElem?_eq_getElem hx') (Array.getElem?_eq_getElem hy') (by simpa using hc)
        omega
      have hqb : q.blk ≠ b := hfree D id q _ hq hget rfl hqr
      have hbl : b < w.heap.size := by
        rcases Nat.lt_or_ge b w.heap.size with h | h
        · exact h
        · rw [Array.getElem?_eq_none h] at hit; cases hit
      let w1 := putIt (w.drewN k) b (.mapIter (some q.blk) clock (seen.push e.born) clock)
      have hw1b : w1.heap[b]? = some (.mapIter (some q.blk) clock (seen.push e.born) clock) := by
        show (putIt _ _ _).heap[b]? = _
        rw [putIt_get, if_pos rfl, if_pos (show b < (w.drewN k).heap.size from hbl)]
      have hw1q : w1.heap[q.blk]? = some (.map es clock) := by
        show (putIt _ _ _).heap[q.blk]? = _
        rw [putIt_get, if_neg hqb]
        exact hmp
      have hh1 : HRel E w0 ρ (H.set id (.map kt (mfK D ks) (mfC D ks col))) w1 := by
        refine hst.heap.aside (hfree D) hb rfl rfl rfl ?_ ?_
        · show _ ≤ (w.heap.setIfInBounds b _).size
          simp
        · intro x _ hx
          show (putIt _ _ _).heap[x]? = _
          rw [putIt_get, if_neg hx]
          rfl
      refine wp_one ok.next_g (u := .tuple #[.bool true, e.key, e.val]) (w' := w1) ?_ ?_
      · unfold execOp; rw [ok.next]; simp [hptr, hrun, w1]
      rw [ok.next_d]
      have f1 := hst.frame.put (d := nx) (v := .at (.raw (.tuple #[.bool true, e.key, e.val]))) (u := .tuple #[.bool true, e.key, e.val]) hlt.1 rfl
      have e1 := f1.raw (t := nx) lk_same
      refine wp_one ok.ext_g (u := .bool true) (w' := w1) ?_ ?_
      · unfold execOp; rw [ok.ext]; simp [e1, Instr.extract]
      rw [ok.ext_d]
      have f2 := f1.put (d := more) (v := .at (.raw (.bool true))) (u := .bool true) hlt.2.1 rfl
      refine wpList_nil ⟨rfl, ?_⟩
      have e2 := f2.raw (t := more) lk_same
      have g2 : FRel N ρ (H.set id (.map kt (mfK D ks) (mfC D ks col))) ((it, ptrV b) :: fr2) ((a.put (some nx) (.tuple #[.bool true, e.key, e.val])).put (some more) (.bool true)) := f2.sub fun t v hl => by
        by_cases ht : it = t
        · subst ht; rw [lk_other hne.2.1.symm, lk_other hne.1.symm]; exact hl
        · rw [lk_other ht] at hl
          obtain ⟨h1, h2, h3, h4⟩ := hfr t v hl
          rw [lk_other h3.symm, lk_other h2.symm, lk_other ht]; exact hl
      revert g2 e2
      generalize (a.put (some nx) (.tuple #[.bool true, e.key, e.val])).put (some more) (.bool true) = a2
      intro e2 g2
      refine Goes.step (fun b cs => step_seq) ?_
      refine Goes.step (fun b cs => step_cond (t := true) e2) ?_
      refine Goes.step (fun b cs => step_skip) ?_
      refine Goes.step (fun b cs => step_block) ?_
      refine Goes.step (fun b cs => step_seq) ?_
      refine Goes.code (wp_region_list ?_)
      show wpList P _ _ (oentry :: rest2) a2 w1
      refine wp_one ok.entry_g (u := .tuple #[e.key, e.val]) (w' := w1) ?_ ?_
      · unfold execOp; rw [ok.entry]; simp [g2.raw (t := it) lk_same, entry_run hw1b hw1q hm1.1 hbn]
      rw [ok.entry_d]
      have f3 := g2.put (d := pair) (v := .tup [.at (.raw (.int kt n)), .at ((mfC D ks col).at i)]) (u := .tuple #[e.key, e.val]) hlt.2.2 ⟨[e.key, e.val], rfl, rfl, fun j x v hj hv => by
        match j with
        | 0 => simp at hj hv; subst hj; subst hv; exact hke
        | 1 => simp at hj hv; subst hj; subst hv; exact hve
        | j + 2 => simp at hj⟩
      obtain ⟨fr4, hd3, hc4, hs4, hdel⟩ := HR (mfK D ks) (mfC D ks col) n i b hn hnm.1
      have s3 : St true E w0 w1 N ρ ρ (H.set id (.map kt (mfK D ks) (mfC D ks col))) ((pair, .tup [.at (.raw (.int kt n)), .at ((mfC D ks col).at i)]) :: (it, ptrV b) :: fr2) (a2.put (some pair) (.tuple #[e.key, e.val])) w1 :=
        ⟨fun _ _ h => h, f3, hh1, fun _ => ⟨0, rfl⟩⟩
      refine denOps_ok htl hΓ rest2 hd3 s3 ?_
      intro ρ3 H3 fr3 a3 w3 s3' hd4
      refine ⟨rfl, ?_⟩
      refine Goes.step (fun b cs => step_seq) ?_
      refine Goes.code (wp_region_list ?_)
      refine denOps_ok htl hΓ ops3.toList hd4 s3' ?_
      intro ρ4 H4 fr4' a4 w4 s4 h4
      cases h4
      obtain rfl : ρ4 = ρ := pl_same s4.pre (by rw [s4.heap.len, hst.heap.len])
      obtain ⟨k4, rfl⟩ := s4.still rfl
      refine ⟨rfl, ?_⟩
      have e4 : a4.eval (.tmp c) = .bool (del n) := by
        have := ev_rel s4.frame (.tmp c)
        rw [hc4] at this
        exact this
      refine Goes.step (fun b cs => step_cond e4) ?_
      -- who has been seen
      have seen' : ∀ x ∈ es.toList, ∀ y, x.key = .int kt y → (seen.push e.born).contains x.born = true → x.born ≠ e.born → del y = false := by
        intro x hx y hy hc hxe
        refine hseen x hx y hy ?_
        rw [contains_push] at hc
        have : (x.born == e.born) = false := by simpa using hxe
        rwa [this, Bool.or_false] at hc
      have same : ∀ x ∈ es.toList, x.born = e.born → x = e := by
        intro x hx hxe
        obtain ⟨j, hj⟩ := List.getElem?_of_mem hx
        have := hborn j i x e (by simpa using hj) hi' hxe
        subst this
        rw [hi] at hj; exact (Option.some.inj hj).symm
      have hlt' := left_shrinks es seen e he
      cases hdn : del n with
      | false =>
        simp only [Bool.false_eq_true, if_false]
        refine Goes.step (fun b cs => step_skip) ?_
        refine Goes.step (fun b cs => step_inBlock) ?_
        refine Goes.step (fun b cs => step_inLoop) ?_
        refine ih (leftOf es (seen.push e.born)).size (by omega) D a4 (w1.drewN k4) ⟨⟨hst.pre, s4.frame.sub hs4, s4.heap, fun h => by cases h⟩, hd.sub, es, seen.push e.born, clock, hw1b, hw1q, ?_, Nat.le_refl _⟩
        intro x hx y hy hc
        by_cases hxe : x.born = e.born
        · have := same x hx hxe
          subst this
          rw [hke] at hy
          cases hy
          exact hdn
        · exact seen' x hx y hy hc hxe
      | true =>
        simp only [if_true]
        obtain ⟨fr5, hd5, hm5, hk5, hs5⟩ := hdel hdn
        refine Goes.code (wp_region_list ?_)
        refine denOps_tail htl hΓ pre4 hd5 s4 ?_
        intro ρ5 H5 fr5' a5 w5 s5 h5
        cases h5
        obtain rfl : ρ5 = ρ4 := pl_same s5.pre (by rw [s5.heap.len, hst.heap.len])
        obtain ⟨k5, rfl⟩ := s5.still rfl
        have hed : eDelete (H.set id (.map kt (mfK D ks) (mfC D ks col))) tl mt (.at (.map id)) (.at (.raw (.int kt n))) = some ((H.set id (.map kt (mfK D ks) (mfC D ks col))).set id (.map kt (mdelK (mfK D ks) n) (mdelC (mfK D ks) n (mfC D ks col)))) := by
          have hoc := mfC_ok (d := D) (ks := ks) hokc
          unfold eDelete
          simp only [hkm, hkk, hget]
          revert hoc
          cases mfC D ks col <;> intro hoc <;> simp [okC] at hoc <;> simp [mdelC]
        have r1 := ev_rel s5.frame mx
        have r2 := ev_rel s5.frame kx
        rw [hm5] at r1
        rw [hk5] at r2
        obtain ⟨w6, hr6, hx6, hh6⟩ := eDelete_ok (ty := odel.type) htl s5.heap hed r1 r2 #[mt, kI] rfl
        have hmv : a5.eval mx = .map (some q.blk) := by
          rcases r1 with hg | ⟨p, hp, hu⟩
          · unfold Gone at hg; rw [hget] at hg; cases hg
          · rw [hq] at hp; cases hp; exact hu
        have hkv : a5.eval kx = .int kt n := r2
        have hu1 : P.underlying mt = some (.map kI et) := kd_ok htl hkm
        have hu2 : P.underlying kI = some (.int kt) := kd_ok htl hkk
        have hr6' := delete_run (P := P) (w := w1.drewN k5) (t := mt) (kt := kI) (et := et) (ty := odel.type) (kk := kt) (n := n) (es := es) (clock := clock) (b := q.blk) (ks := mfK D ks) (ts := #[mt, kI]) rfl hu1 hu2 hw1q hes (fun i x hx => (hkeys i x hx).1)
        rw [hmv, hkv, hr6'] at hr6
        have hhas : mhas (mfK D ks) n = true ∧ midx (mfK D ks) n = i := mhas_nodup (mfK_nodup hnd) hn
        rw [hhas.1, hhas.2, cond_true] at hr6
        obtain rfl := (Result.ok.inj hr6).2
        have hw6q : ({ w1.drewN k5 with heap := (w1.drewN k5).heap.setIfInBounds q.blk (.map (es.eraseIdxIfInBounds i) clock) } : World).heap[q.blk]? = some (.map (es.eraseIdxIfInBounds i) clock) := by
          refine heap_set_obj (w1.drewN k5) ?_
          have h1 := hw1q
          rcases Nat.lt_or_ge q.blk w1.heap.size with h | h
          · exact h
          · rw [Array.getElem?_eq_none h] at h1; cases h1
        have hw6b : ({ w1.drewN k5 with heap := (w1.drewN k5).heap.setIfInBounds q.blk (.map (es.eraseIdxIfInBounds i) clock) } : World).heap[b]? = some (.mapIter (some q.blk) clock (seen.push e.born) clock) := by
          show (w1.heap.setIfInBounds q.blk _)[b]? = _
          rw [Array.getElem?_setIfInBounds_ne hqb]
          exact hw1b
        have hdn' : D n = false := hnm.2
        have hcK := mfK_del hnd hnm.1 hdn'
        have hcC := mfC_del hcl hnd hnm.1 hdn'
        rw [List.set_set, hcK, hcC] at hh6 hx6
        have hes' : (es.eraseIdxIfInBounds i).toList = es.toList.eraseIdx i := by
          simp [Array.eraseIdxIfInBounds, hil]
        have hsub : ∀ x ∈ (es.eraseIdxIfInBounds i).toList, x ∈ es.toList ∧ x.born ≠ e.born := by
          intro x hx
          rw [hes', List.mem_eraseIdx_iff_getElem?] at hx
          obtain ⟨j, hji, hj⟩ := hx
          refine ⟨List.mem_of_getElem? hj, fun hxe => hji (hborn j i x e (by simpa using hj) hi' hxe)⟩
        have hleft : (leftOf (es.eraseIdxIfInBounds i) (seen.push e.born)).size ≤ (leftOf es (seen.push e.born)).size := by
          have e1 : ∀ (X : Array MapEntry) (p : MapEntry → Bool), (X.filter p).size = (X.toList.filter p).length := fun X p => by rw [← Array.toList_filter, Array.length_toList]
          unfold leftOf
          rw [e1, e1, hes']
          exact (List.Sublist.filter _ (List.eraseIdx_sublist _ _)).length_le
        have f6 : FRel N ρ5 (H.set id (.map kt (mfK (fun k => D k || k == n) ks) (mfC (fun k => D k || k == n) ks col))) ((it, ptrV b) :: fr2) (a5.put odel.dst (.tuple #[])) := by
          rw [ok.del_d]
          exact (s5.frame.sub hs5).ext hx6
        refine wp_one ok.del_g (u := .tuple #[]) (w' := { w1.drewN k5 with heap := (w1.drewN k5).heap.setIfInBounds q.blk (.map (es.eraseIdxIfInBounds i) clock) }) ?_ ?_
        · unfold execOp
          rw [ok.del]
          simp [resolve, invoke, builtin, hmv, hkv, hr6', hhas.1, hhas.2]
        refine wpList_nil ⟨rfl, ?_⟩
        refine Goes.step (fun b cs => step_inBlock) ?_
        refine Goes.step (fun b cs => step_inLoop) ?_
        refine ih (leftOf (es.eraseIdxIfInBounds i) (seen.push e.born)).size (by omega) (fun k => D k || k == n) _ _ ⟨⟨hst.pre, f6, hh6, fun h => by cases h⟩, ?_, es.eraseIdxIfInBounds i, seen.push e.born, clock, hw6b, hw6q, ?_, Nat.le_refl _⟩
        · intro y hy hD
          cases hDy : D y with
          | true => exact hd.sub y hy hDy
          | false =>
            rw [hDy, Bool.false_or] at hD
            rw [eq_of_beq hD]
            exact hdn
        · intro x hx y hy hc
          have := hsub x hx
          exact seen' x this.1 y hy hc this.2

theorem set_same {H : Heap} {id : Nat} {o : AObj} (h : H[id]? = some o) : H.set id o = H := by
  apply List.ext_getElem?
  intro i
  by_cases hi : id = i
  · subst hi
    rw [List.getElem?_set_self (List.getElem?_eq_some_iff.1 h).1, h]
  · rw [List.getElem?_set_ne hi]

/-- The range and its loop. -/
theorem range_goes (htl : TabOk P tl) (hΓ : EnvOk P Γ) {f : FuncId} {i0 i1 i2 i3 i4 bo bn more c it nx pair id : Nat} {orange onext oext oentry odel : Oper} {pre rest2 : List Oper} {ops3 : Array Oper} {pre4 : List Oper} {x mx kx : Operand} {mt kI et : TypeId}
    (ok : RgOk onext oext oentry odel it nx more pair mx kx mt kI) (ho : orange.op = .range mt x) (hod : orange.dst = some it) (hog : orange.guard = none)
    (hlt : it < N ∧ nx < N ∧ more < N ∧ pair < N) (hne : it ≠ nx ∧ it ≠ more ∧ it ≠ pair ∧ nx ≠ more)
    {kt : IntKind} {ks : List Int} {col : Col} {del : Int → Bool} {fr1 fr2 : Fr}
    (hs : St false E w0 ws N ρ0 ρ H fr a w)
    (hpre : denOps Γ true tl N ⟨pre ++ [orange]⟩ pre fr H (fun fr' H' => some (fr', H')) = some (fr1, H)) (hx : ev fr1 x = .at (.map id)) (hH : H[id]? = some (.map kt ks col))
    (hnd : ks.Nodup) (hokc : okC col = true) (hkm : kd tl mt = some (.map kI et)) (hkk : kd tl kI = some (.int kt))
    (hfr : ∀ t v, lk fr2 t = some v → lk fr1 t = some v ∧ t ≠ it ∧ t ≠ nx ∧ t ≠ more ∧ t ≠ pair)
    (HR : Round Γ tl N H id kt ks del fr2 it pair c ⟨oentry :: rest2⟩ rest2 ops3 ⟨pre4 ++ [odel]⟩ pre4 mx kx)
    {K : List Item} {R : Value → World → Prop}
    (hK : ∀ a' w', St false E w0 ws N ρ0 ρ (H.set id (.map kt (mfK del ks) (mfC del ks col))) fr2 a' w' → Goes P f a' K w' R) :
    Goes P f a (.code (.seq (.region i0 ⟨pre ++ [orange]⟩ false) (.block bo (.loop (rgB i1 i2 i3 i4 bo bn more c onext oext oentry odel rest2 ops3 pre4)))) :: K) w R := by
  refine Goes.step (fun b cs => step_seq) ?_
  refine Goes.code (wp_region_list ?_)
  have s0 : St true E w0 w N ρ ρ H fr a w := ⟨fun _ _ h => h, hs.frame, hs.heap, fun _ => ⟨0, rfl⟩⟩
  refine denOps_tail htl hΓ pre hpre s0 ?_
  intro ρ1 H1 fr1' a1 w1 s1 h1
  cases h1
  obtain rfl : ρ1 = ρ := pl_same s1.pre (by rw [s1.heap.len, hs.heap.len])
  obtain ⟨k1, rfl⟩ := s1.still rfl
  have hid : id < H.length := (List.getElem?_eq_some_iff.1 hH).1
  obtain ⟨q, hq, hob⟩ := s1.heap.at hH
  obtain ⟨hqr, hcl, es, clock, hmp, hes, hkeys, hborn⟩ := hob
  have hxv : a1.eval x = .map (some q.blk) := by
    have := ev_rel s1.frame x
    rw [hx] at this
    rcases this with hg | ⟨p, hp, hu⟩
    · unfold Gone at hg; rw [hH] at hg; cases hg
    · rw [hq] at hp; cases hp; exact hu
  have hrun := run_range_map (P := P) (w.drewN k1) mt kI et q.blk es clock (kd_ok htl hkm) hmp
  refine wp_one hog (u := .pointer (some ⟨(w.drewN k1).heap.size, 0, none⟩)) (w' := (w.drewN k1).alloc (.mapIter (some q.blk) clock #[] clock)) ?_ ?_
  · unfold execOp; rw [ho]; simp [hxv, hrun]
  rw [hod]
  have hbs : (w.drewN k1).heap.size = w.heap.size := rfl
  have f2 := s1.frame.put (d := it) (v := ptrV (w.drewN k1).heap.size) (u := .pointer (some ⟨(w.drewN k1).heap.size, 0, none⟩)) hlt.1 rfl
  refine wpList_nil ⟨rfl, ?_⟩
  refine Goes.step (fun b cs => step_block) ?_
  refine Goes.step (fun b cs => step_loop) ?_
  have hfree0 : Free ρ1 H (w.drewN k1).heap.size := free_new s1.heap (Nat.le_refl _)
  have hfree : ∀ D, Free ρ1 (H.set id (.map kt (mfK D ks) (mfC D ks col))) (w.drewN k1).heap.size := by
    intro D i p o hp ho hd hr
    by_cases hi : id = i
    · subst hi
      exact hfree0 id p _ hp hH rfl hr
    · rw [List.getElem?_set_ne hi] at ho
      exact hfree0 i p o hp ho hd hr
  have h2 : HRel E w0 ρ1 H ((w.drewN k1).alloc (.mapIter (some q.blk) clock #[] clock)) := by
    refine s1.heap.aside hfree0 s1.heap.kept.size rfl rfl rfl ?_ ?_
    · show _ ≤ ((w.drewN k1).heap.push _).size
      simp
    · intro j hj _
      exact heap_alloc_old _ _ hj
  have hsame : H.set id (.map kt (mfK (fun _ => false) ks) (mfC (fun _ => false) ks col)) = H := by
    rw [mfK_all, mfC_all hcl hokc, set_same hH]
  refine rg_loop htl hΓ ok hlt.2 hne hq hid s1.heap.kept.size hfree hcl hnd hokc hkm hkk (fun t v hl => (hfr t v hl).2) HR hK (leftOf es #[]).size (fun _ => false) _ _ ⟨⟨hs.pre, ?_, ?_, (fun h => by cases h)⟩, (fun _ _ h => by cases h), es, #[], clock, ?_, ?_, ?_, Nat.le_refl _⟩
  · rw [hsame]
    refine f2.sub fun t v hl => ?_
    by_cases ht : it = t
    · subst ht; rw [lk_same] at hl ⊢; exact hl
    · rw [lk_other ht] at hl ⊢
      exact (hfr t v hl).1
  · rw [hsame]; exact h2
  · exact heap_alloc_new _ _
  · rw [heap_alloc_old _ _ (real_lt hqr rfl (s1.heap.obj id q _ hq hH))]
    exact hmp
  · intro e _ k _ hc
    simp at hc
end
end Go.Sx

noncomputable section
namespace Go.Sx
open Go
def fnIs (j p : Nat) (xs : List V) : Bool :=
  match xs[j]? with
  | some (.at (.fn q _)) => Nat.beq q p
  | _ => false
def Env.addEW (Γ : Env) (j p : Nat) (f : FuncId) (nargs : Nat) (Tin Tout : Tm) (SC : Tld) : Env :=
  ⟨fun pu g H xs k => bif Nat.beq g f && fnIs j p xs then (bif pu then Option.none else callE nargs Tin Tout SC H xs k) else Γ.call pu g H xs k, Γ.ext, Γ.eqA, Γ.force, fun g => bif Nat.beq g f then true else Γ.eff g, Γ.mth, Γ.isC, Γ.callC⟩
theorem EnvOk.addEW {P : Program} {Γ : Env} (hΓ : EnvOk P Γ) {f : FuncId} (j p : Nat) {nargs k0 : Nat} {Tin Tout : Tm} {S : List Leaf → Option (List Leaf)} {pure : Bool} (hf : FnC P f pure nargs k0 Tin Tout S) {SC : Tld} (hSC : Says SC S) : EnvOk P (Γ.addEW j p f nargs Tin Tout SC) := by
  have h0 := EnvOk.addE hΓ hf hSC
  refine ⟨fun pu g H xs k r h => ?_, hΓ.ext, hΓ.eqA, hΓ.mth, hΓ.okC⟩
  simp only [Env.addEW] at h
  cases hb : (Nat.beq g f && fnIs j p xs) with
  | false => rw [hb] at h; exact hΓ.ok _ _ _ _ _ _ h
  | true =>
    rw [hb] at h
    refine h0.ok pu g H xs k r ?_
    rw [Bool.and_eq_true] at hb
    simp only [Env.addE, hb.1]
    exact h
/-- Methods behind a face, by their rows. -/
def Env.addM (Γ : Env) (t : TypeId) (m : String) (f : FuncId) : Env :=
  ⟨Γ.call, Γ.ext, Γ.eqA, Γ.force, Γ.eff, fun t' m' => bif Nat.beq t' t && decide (m' = m) then some f else Γ.mth t' m', Γ.isC, Γ.callC⟩
def mthB (P : Program) (t : TypeId) (m : String) (f : FuncId) : Bool :=
  match P.info? t with
  | some i => match i.methods.find? (·.name == m) with
    | some r => r.path.isEmpty && (match r.func with | some (g, true) => Nat.beq g f | _ => false)
    | none => false
  | none => false
theorem method_run {P : Program} {t e : TypeId} {m : String} {f : FuncId} (h : mthB P t m f = true) (hu : P.underlying t = some (.pointer e)) (n : Nat) (v : Value) (w : World) : (method (n + 1) t v m).run P w = .ok (f, v) w := by
  unfold mthB at h
  split at h
  · rename_i i hi
    split at h
    · rename_i r hr
      rw [Bool.and_eq_true] at h
      obtain ⟨h1, h2⟩ := h
      split at h2
      · rename_i g hg
        have h2 := Nat.eq_of_beq_eq_true h2
        subst h2
        have hp : r.path = #[] := by simpa [Array.isEmpty_iff] using h1
        unfold method
        simp [typeInfo, hi, hr, hp, hg, follow, receiverAt, Place.get, run_underlying hu]
      · cases h2
    · cases h
  · cases h
theorem EnvOk.addM {P : Program} {Γ : Env} (hΓ : EnvOk P Γ) {t e : TypeId} {m : String} {f : FuncId} (h : mthB P t m f = true) (hu : P.underlying t = some (.pointer e)) : EnvOk P (Γ.addM t m f) := by
  refine ⟨hΓ.ok, hΓ.ext, hΓ.eqA, fun t' m' g hm v w => ?_, hΓ.okC⟩
  simp only [Env.addM] at hm
  cases hb : (Nat.beq t' t && decide (m' = m)) with
  | false => rw [hb] at hm; exact hΓ.mth t' m' g hm v w
  | true =>
    rw [hb] at hm
    cases hm
    rw [Bool.and_eq_true] at hb
    have e1 := Nat.eq_of_beq_eq_true hb.1
    have e2 := of_decide_eq_true hb.2
    subst e1 e2
    have : P.types.size + Made.depth = (P.types.size + 99) + 1 := rfl
    rw [this]
    exact method_run h hu _ v w
/-! ### A loop whose head has two looks -/
/-- What lies behind the face in a slot. -/
def faceIs (fr : Fr) (s t : Nat) : Bool :=
  match lk fr s with
  | some (.at (.iface u _ _)) => Nat.beq u t
  | _ => false
section
variable {P : Program} {E : Nat → Prop} {w0 ws w : World} {ρ0 ρ : List Pl} {H : Heap} {n : Nat} {fr : Fr} {a : Act} {tl : Tab} {Γ : Env} {Λ : Loops}
def LOkD (d : Fr → Bool) (P : Program) (f : FuncId) (fn : Func) (pure : Bool) (E : Nat → Prop) (w0 ws : World) (n : Nat) (ρ0 : List Pl) (Λ : Loops) (b : Code) : Prop :=
  ∀ {α : Type} (kx : Nat → Fr → Heap → Option α) (kr : Fr → Heap → Option α) (r : α) (ρ : List Pl) (H : Heap) (fr : Fr) (a : Act) (w : World), d fr = true →
    Λ.loop b fr H kx kr = some r → St pure E w0 ws n ρ0 ρ H fr a w → ∀ (k : List Item) (R : Value → World → Prop),
    (∀ id ρ' H' fr' a' w', St pure E w0 ws n ρ0 ρ' H' fr' a' w' → kx id fr' H' = some r → ∃ k1, exitTo id k = some k1 ∧ Goes P f a' k1 w' R) →
    (∀ ρ' H' fr' a' w', St pure E w0 ws n ρ0 ρ' H' fr' a' w' → kr fr' H' = some r → Ends P fn a' w' R) →
    Goes P f a (.code b :: .inLoop b :: k) w R
theorem lokD (hm : P.follows .mixedOrders = true) (htl : TabOk P tl) (hΓ : EnvOk P Γ) {pure : Bool} {f : FuncId} {fn : Func} (hfn : P.funcs[f]? = some fn) {k0 : Nat} (hk0 : ρ0.length = k0)
    {d : Fr → Bool} {T rt : Tm} {cuts : List Nat} {ex : Exits} {b : Code} {top : Nat}
    {F : {α : Type} → Nat → List Leaf → (Nat → List Leaf → Option α) → (List Leaf → Option α) → Option α}
    (hΛ : ∀ {α : Type} fr H (kx : Nat → Fr → Heap → Option α) kr, d fr = true → Λ.loop b fr H kx kr = loopE k0 T cuts ex rt (F top) fr H kx kr)
    (h0 : ∀ {α : Type} ls kx kr (r : α), F 0 ls kx kr ≠ some r)
    (hF : ∀ {α : Type} fuel ls kx kr (r : α), F (fuel + 1) ls kx kr = some r → loopB Γ Λ pure tl n k0 T cuts ex rt b (fun ls => F fuel ls kx kr) kx kr (instFr T ls) (instH T ls) = some r)
    (hl : ∀ b' ∈ loopsOf b, LOk P f fn pure E w0 ws n ρ0 Λ b') : LOkD d P f fn pure E w0 ws n ρ0 Λ b := by
  intro α kx kr r ρ H fr a w hd h hs k R hx hr
  rw [hΛ _ _ _ _ hd] at h
  unfold loopE at h
  obtain ⟨ls, fr', H', ρ', h2, hi, hs'⟩ := look_st hk0 h hs
  refine loop_ok hm htl hΓ hfn hk0 (F := F) (fun _ _ _ _ => h0 _ _ _ _) (fun _ _ _ _ _ => hF _ _ _ _ _) hl ?_ ?_ top h2 hi hs'
  · intro id Tx cx ls' ρ' H' fr' a' w' hex hk hi' hs'
    obtain ⟨Tx', cx', hex', hk⟩ := exK_some hk
    rw [hex] at hex'; cases hex'
    obtain ⟨fr2, H2, hi2, hk2⟩ := putU_some hk
    rw [hi'] at hi2; cases hi2
    exact hx id ρ' H' fr' a' w' hs' hk2
  · intro ls' ρ' H' fr' a' w' hk hi' hs'
    obtain ⟨fr2, H2, hi2, hk2⟩ := putU_some hk
    rw [hi'] at hi2; cases hi2
    exact hr ρ' H' fr' a' w' hs' hk2
theorem lok_two {pure : Bool} {f : FuncId} {fn : Func} {d1 d2 : Fr → Bool} {b : Code}
    (h : ∀ {α : Type} fr H (kx : Nat → Fr → Heap → Option α) kr, d1 fr = false → d2 fr = false → Λ.loop b fr H kx kr = none)
    (h1 : LOkD d1 P f fn pure E w0 ws n ρ0 Λ b) (h2 : LOkD d2 P f fn pure E w0 ws n ρ0 Λ b) : LOk P f fn pure E w0 ws n ρ0 Λ b := by
  intro α kx kr r ρ H fr a w hL hs
  cases e1 : d1 fr with
  | true => exact h1 kx kr r ρ H fr a w e1 hL hs
  | false => cases e2 : d2 fr with
    | true => exact h2 kx kr r ρ H fr a w e2 hL hs
    | false => rw [h fr H kx kr e1 e2] at hL; cases hL
end
theorem faceIs_ne {fr : Fr} {s a b : Nat} (h : a ≠ b) (hb : faceIs fr s b = true) : faceIs fr s a = false := by
  unfold faceIs at hb ⊢
  generalize lk fr s = x at hb ⊢
  split at hb
  · rename_i u _ _
    have := Nat.eq_of_beq_eq_true hb
    subst this
    cases hx : Nat.beq u a with
    | false => rfl
    | true => exact absurd (Nat.eq_of_beq_eq_true hx).symm h
  · cases hb
/-! ### Calls carried out in place, whatever lies behind them -/
def finC {α : Type} (tl : Tab) (ts : List ResultVar) (H : Heap) (k : V → Heap → Option α) (fr : Fr) (H' : Heap) : Option α :=
  match retV tl ts fr H' with
  | some v => bif deadKept H H' then k v H' else none
  | none => none
def callCps {α : Type} (Γ : Env) (tl : Tab) (fn : Func) (xs : List V) (H : Heap) (k : V → Heap → Option α) : Option α :=
  match fn.body with
  | some body => bif Nat.ble xs.length fn.ntmps then den Γ (unrollL Γ false tl fn.ntmps 5000) false tl fn.ntmps (finC tl fn.results.toList H k) (fun _ _ _ => none) (finC tl fn.results.toList H k) 10000 [.code body] (argFr 0 xs) H else none
  | none => none
def inlC (fs : Fns) (tl : Tab) (Γ : Env) : Nat → Env
  | 0 => Γ
  | d + 1 => ⟨Γ.call, Γ.ext, Γ.eqA, Γ.force, fun g => (match lk fs g with | some _ => true | none => Γ.eff g), Γ.mth, fun g => (match lk fs g with | some _ => true | none => Γ.isC g),
      fun f H xs k => match lk fs f with | some fn => callCps (inlC fs tl Γ d) tl fn xs H k | none => Γ.callC f H xs k⟩
section
variable {P : Program} {E : Nat → Prop} {w0 w : World} {ρ : List Pl} {H : Heap} {tl : Tab} {Γ : Env}
theorem callCps_ok (hm : P.follows .mixedOrders = true) (htl : TabOk P tl) (hΓ : EnvOk P Γ) {f : FuncId} {fn : Func} (hfn : P.funcs[f]? = some fn) {xs : List V} {α : Type} {k : V → Heap → Option α} {r : α} (h : callCps Γ tl fn xs H k = some r)
    {us : List Value} (hr : HRel E w0 ρ H w) (hus : VsRel ρ H xs us) :
    Calls P f us.toArray w fun e w' => ∃ v H' u ρ', k v H' = some r ∧ e = .returned u ∧ Ext ρ H ρ' H' ∧ HRel E w0 ρ' H' w' ∧ VRel ρ' H' v u := by
  unfold callCps at h
  split at h
  case h_2 => cases h
  rename_i body hbody
  cases hn : Nat.ble xs.length fn.ntmps with
  | false => rw [hn] at h; cases h
  | true =>
  rw [hn] at h
  simp only [cond_true] at h
  have hn := Nat.le_of_ble_eq_true hn
  have hlen := hus.len
  let a0 : Act := { tmps := us.toArray ++ Array.replicate (fn.ntmps - us.toArray.size) undef, defers := [] }
  have hframe : FRel fn.ntmps ρ H (argFr 0 xs) a0 := by
    refine ⟨by simp [a0, hlen]; omega, rfl, fun t v hl => ?_, fun t v hl => by have := argFr_lt hl; omega⟩
    have h1 := argFr_lt hl
    have h2 := argFr_rel hus t v hl
    have : a0.tmps.getD t undef = us.getD t undef := by
      simp only [a0, Array.getD_eq_getD_getElem?, List.getD_eq_getElem?_getD]
      rw [Array.getElem?_append_left (by simp [hlen]; omega)]
      simp
    rw [this]; exact h2
  have hst : St false E w0 w fn.ntmps ρ ρ H (argFr 0 xs) a0 w := ⟨fun _ _ h => h, hframe, hr, fun _ => ⟨0, rfl⟩⟩
  have fin : ∀ ρ2 H2 fr2 a2 w2, St false E w0 w fn.ntmps ρ ρ2 H2 fr2 a2 w2 → finC tl fn.results.toList H k fr2 H2 = some r →
      Ends P fn a2 w2 fun u w' => ∃ v H' ρ', k v H' = some r ∧ Ext ρ H ρ' H' ∧ HRel E w0 ρ' H' w' ∧ VRel ρ' H' v u := by
    intro ρ2 H2 fr2 a2 w2 hs h'
    unfold finC at h'
    split at h'
    · rename_i v hv
      cases hd : deadKept H H2 with
      | false => rw [hd] at h'; cases h'
      | true =>
        rw [hd] at h'
        obtain ⟨u, hrun, hu⟩ := retV_run (P := P) (w := w2) htl hs.heap.read rfl hv hs.frame
        exact ⟨u, hrun, v, H2, ρ2, h', ⟨hs.pre, deadKept_ok hd⟩, hs.heap, hu⟩
    · cases h'
  have hgo := den_ok (K := []) (items := [.code body]) (ρ0 := ρ) hm htl hΓ hfn (R := fun u w' => ∃ v H' ρ', k v H' = some r ∧ Ext ρ H ρ' H' ∧ HRel E w0 ρ' H' w' ∧ VRel ρ' H' v u)
    (fun ρ' H' fr' a' w' hs' h' => let ⟨u, h1, h2⟩ := fin ρ' H' fr' a' w' hs' h'; Goes.end_ hfn hs'.frame.defers h1 h2)
    (fun id ρ' H' fr' a' w' hs' h' => by cases h') fin 10000 h hst (fun b _ => unroll_ok hm htl hΓ hfn 5000 b)
  refine Calls.mono (calls_of_goes hfn hbody hgo) ?_
  rintro e w' ⟨u, rfl, v, H', ρ', h1, h2, h3, h4⟩
  exact ⟨v, H', u, ρ', h1, rfl, h2, h3, h4⟩
theorem EnvOk.inlC (hm : P.follows .mixedOrders = true) (htl : TabOk P tl) (hΓ : EnvOk P Γ) {fs : Fns} (hfs : FnsOk P fs) : ∀ d, EnvOk P (Sx.inlC fs tl Γ d)
  | 0 => hΓ
  | d + 1 => by
    have ih := EnvOk.inlC hm htl hΓ hfs d
    refine ⟨hΓ.ok, hΓ.ext, hΓ.eqA, hΓ.mth, fun f H xs k r h => ?_⟩
    simp only [Sx.inlC] at h
    split at h
    · rename_i fn hfn
      obtain ⟨h1, h2⟩ := hfs f fn hfn
      have hb : fn.body.isNone = false := by
        unfold callCps at h
        split at h
        · rename_i hb; rw [hb]; rfl
        · cases h
      exact ⟨⟨fn, h1, h2, hb⟩, fun E w0 w ρ us hr hus => callCps_ok hm htl ih h1 h hr hus⟩
    · exact hΓ.okC f H xs k r h
end
end Go.Sx

noncomputable section
namespace Go.Sx
open Go
def cA : Code → Code
  | .seq a _ => a
  | c => c
def cB : Code → Code
  | .seq _ b => b
  | c => c
def cIn : Code → Code
  | .block _ c => c
  | .loop c => c
  | c => c
def cYes : Code → Code
  | .cond _ a _ => a
  | c => c
def rOps : Code → List Oper
  | .region _ ⟨l⟩ _ => l
  | _ => []
def noOp : Oper := { dst := none, op := .move (.const undef), type := 0, pos := "", after := #[], guard := none }
def opN (l : List Oper) (i : Nat) : Oper := l.getD i noOp
def nodupB : List Int → Bool
  | [] => true
  | k :: r => !(mhas r k) && nodupB r
theorem mhas_mem {n : Int} : ∀ {ks : List Int}, n ∈ ks → mhas ks n = true
  | k :: r, h => by
    simp only [mhas]
    by_cases hk : k = n
    · simp [hk]
    · have : n ∈ r := by simpa [Ne.symm hk] using h
      rw [mhas_mem this]
      cases (k == n) <;> rfl
theorem nodupB_ok : ∀ {ks : List Int}, nodupB ks = true → ks.Nodup
  | [], _ => List.nodup_nil
  | k :: r, h => by
    simp only [nodupB, Bool.and_eq_true, Bool.not_eq_true'] at h
    exact List.nodup_cons.2 ⟨fun hm => by rw [mhas_mem hm] at h; exact absurd h.1 (by decide), nodupB_ok h.2⟩

/-- How far one number is ahead of another one, on the circle. -/
def diffI (a b : Int) : Int :=
  bif decide (andI .u64 (subI .u64 a b) 281474976710655 ≥ 140737488355328) then subI .i64 (wrapI .i64 (andI .u64 (subI .u64 a b) 281474976710655)) 281474976710656
  else wrapI .i64 (andI .u64 (subI .u64 a b) 281474976710655)
def putHold (s n : Int) : Bool := bif decide (diffI s n < 0) then true else decide (diffI s n ≥ 250)
def dropP (s nw n : Int) : Bool := bif n != nw then putHold s n else false

def fgHold (s n : Int) : Bool := bif decide (diffI s n < 0) then false else true
def dropPF (s nw n : Int) : Bool := bif n != nw then fgHold s n else false
/-- What lies far behind the newest. -/
def oldP (nw n : Int) : Bool := bif decide (diffI nw n ≥ 250) then true else decide (diffI nw n < 0)

section
variable {P : Program} {tl : Tab}
/-- A function's contract, its walk made by hand. -/
theorem fn_hand {f : FuncId} {fn : Func} (hfn : P.funcs[f]? = some fn) (hname : (fn.name == "runtime.NumGoroutine") = false) {body : Code} (hbody : fn.body = some body)
    {nargs k0 : Nat} {Tin Tout : Tm} (hsl : slotsLt nargs Tin.roots = true) (hn : nargs ≤ fn.ntmps) {S : List Leaf → Option (List Leaf)}
    (h : ∀ ls r fr H, S ls = some r → inst Tin ls = some (fr, H) → ∀ (E : Nat → Prop) (w0 w : World) (ρ : List Pl) (a : Act), St false E w0 w fn.ntmps ρ ρ H fr a w →
      Goes P f a [.code body] w fun u w' => ∃ ρ' fr' H' v, (∀ (i : Nat) (p : Pl), ρ[i]? = some p → ρ'[i]? = some p) ∧ inst Tout r = some (fr', H') ∧ HRel E w0 ρ' H' w' ∧ lk fr' 0 = some v ∧ VRel ρ' H' v u) :
    FnC P f false nargs k0 Tin Tout S := by
  refine ⟨⟨fn, hfn, hname, by rw [hbody]; rfl⟩, ?_⟩
  intro ls r fr H E w0 w ρ us hSr hi hr hlen hs
  have hlt : ∀ t v, lk fr t = some v → t < nargs := by
    unfold inst at hi
    split at hi
    · split at hi
      · split at hi
        · rename_i h3; cases hi; exact slotsLt_ok hsl h3
        · cases hi
      · cases hi
    · cases hi
  let a0 : Act := { tmps := us.toArray ++ Array.replicate (fn.ntmps - us.toArray.size) undef, defers := [] }
  have hframe : FRel fn.ntmps ρ H fr a0 := by
    refine ⟨by simp [a0, hlen]; omega, rfl, fun t v hl => ?_, fun t v hl => by have := hlt t v hl; omega⟩
    have h1 := hlt t v hl
    have h2 := hs t v hl
    have : a0.tmps.getD t undef = us.getD t undef := by
      simp only [a0, Array.getD_eq_getD_getElem?, List.getD_eq_getElem?_getD]
      rw [Array.getElem?_append_left (by simp [hlen]; exact h1)]
      simp
    rw [this]; exact h2
  have hg := h ls r fr H hSr hi E w0 w ρ a0 ⟨fun _ _ h => h, hframe, hr, fun _ => ⟨0, rfl⟩⟩
  refine Calls.mono (calls_of_goes hfn hbody hg) ?_
  rintro e w' ⟨u, rfl, ρ', fr', H', v, h1, h2, h3, h4, h5⟩
  exact ⟨u, ρ', fr', H', v, rfl, h1, h2, h3, h4, h5, fun hp => by cases hp⟩
end
/-! ### Steps (none of them by mere unfolding: the kernel is not to look into loops) -/
section
variable {α β : Type}
theorem out_ev (v : α) (k : α → Option β) : out (some v) k = k v := Eq.symm (Eq.symm rfl)
theorem one_ev (n : Int) (k : Int → Option α) : one n k = k n := Eq.symm (Eq.symm rfl)
theorem un_i_ev (n : Int) (r : List Leaf) (k : Int → List Leaf → Option α) : un_i (.i n :: r) k = k n r := Eq.symm (Eq.symm rfl)
theorem un_b_ev (n : Bool) (r : List Leaf) (k : Bool → List Leaf → Option α) : un_b (.b n :: r) k = k n r := Eq.symm (Eq.symm rfl)
theorem un_s_ev (n : ByteArray) (r : List Leaf) (k : ByteArray → List Leaf → Option α) : un_s (.s n :: r) k = k n r := Eq.symm (Eq.symm rfl)
theorem un_li_ev (n : List Int) (r : List Leaf) (k : List Int → List Leaf → Option α) : un_li (.li n :: r) k = k n r := Eq.symm (Eq.symm rfl)
theorem un_lb_ev (n : List Bool) (r : List Leaf) (k : List Bool → List Leaf → Option α) : un_lb (.lb n :: r) k = k n r := Eq.symm (Eq.symm rfl)
theorem un_ls_ev (n : List ByteArray) (r : List Leaf) (k : List ByteArray → List Leaf → Option α) : un_ls (.ls n :: r) k = k n r := Eq.symm (Eq.symm rfl)
theorem un_nil_ev (k : Option α) : un_nil [] k = k := Eq.symm (Eq.symm rfl)
theorem br_t (x y : Option α) : br true x y = x := Eq.symm (Eq.symm rfl)
theorem br_f (x y : Option α) : br false x y = y := Eq.symm (Eq.symm rfl)
theorem chk_t (x : Option α) : chk true x = x := Eq.symm (Eq.symm rfl)
theorem beq00 : Nat.beq 0 0 = true := Eq.symm (Eq.symm rfl)
theorem br_pos {c : Prop} [Decidable c] (h : c) (x y : Option α) : br (decide c) x y = x := by rw [decide_eq_true h]; exact br_t x y
theorem br_neg {c : Prop} [Decidable c] (h : ¬ c) (x y : Option α) : br (decide c) x y = y := by rw [decide_eq_false h]; exact br_f x y
theorem chk_pos {c : Prop} [Decidable c] (h : c) (x : Option α) : chk (decide c) x = x := by rw [decide_eq_true h]; exact chk_t x
theorem br_eq {a b : Int} (h : a = b) (x y : Option α) : br (a == b) x y = x := by rw [beq_iff_eq.2 h]; exact br_t x y
theorem br_ne {a b : Int} (h : a ≠ b) (x y : Option α) : br (a == b) x y = y := by rw [beq_eq_false_iff_ne.2 h]; exact br_f x y
end

end Go.Sx

noncomputable section
namespace Go.Sx
open Go
theorem Kept.below {w w' : World} (h : Kept (fun _ => False) w w') : RowKit.Below w.heap.size w w' :=
  ⟨h.os, h.tape, h.output, h.size, fun k hk => h.block k hk fun h => h⟩
theorem law_of {P : Program} {f : FuncId} {pure : Bool} {nargs k0 : Nat} {Tin Tout : Tm} {S : List Leaf → Option (List Leaf)} (c : FnC P f pure nargs k0 Tin Tout S)
    {ls r : List Leaf} {fr : Fr} {H : Heap} (hS : S ls = some r) (hi : inst Tin ls = some (fr, H)) {W : World} {ρ : List Pl} {us : List Value} (hl : us.length = nargs)
    (hr : HRel (fun _ => False) W ρ H W) (hs : SRel ρ H fr (fun t => us.getD t undef)) (ho : ∃ H', inst Tout r = some ([(0, .at (.raw (.bool true)))], H')) :
    Calls P f us.toArray W fun e W' => e = .returned (.bool true) ∧ RowKit.Below W.heap.size W W' := by
  refine Calls.mono (c.run ls r fr H _ W W ρ us hS hi hr hl hs) ?_
  rintro e w' ⟨u, ρ', fr', H', v, rfl, _, h2, h3, h4, h5, _⟩
  obtain ⟨H2, ho⟩ := ho
  rw [ho] at h2
  cases h2
  cases h4
  exact ⟨by have : u = .bool true := h5; rw [this], h3.kept.below⟩
end Go.Sx

noncomputable section
namespace Go.Sx
open Go
section
variable {P : Program}
theorem eqOk_arr3 {t e : TypeId} {ti : TI} (ht : P.underlying t = some (.array 3 e)) (he : P.underlying e = some (.int .u8)) (hti : TiOk P e ti) (hk : ti.kind.isAgg = some false) (hs : ti.size = 1) (hg : P.eqGuardType P.depth t = false) : EqOk P t [.u8, .u8, .u8] := by
  intro l l' hl hl' x y w
  match l, l', hl, hl' with
  | [a, b, c], [a', b', c'], _, _ =>
    have p : ∀ (vs : Array Value) (o : Nat) (u : Value), vs[o]? = some u → (part e vs o).run P w = .ok u w := fun vs o u h => part_one hti hk h w
    have q : ∀ (m n : Int), (Op.equalIn 9999 e (.int .u8 m) (.int .u8 n)).run P w = .ok (m == n) w := fun m n => run_equalIn_int w 9998 e .u8 .u8 m n he
    have key : (Op.equalIn 10000 t (.agg (intVals [.u8, .u8, .u8] [a, b, c]).toArray) (.agg (intVals [.u8, .u8, .u8] [a', b', c']).toArray)).run P w = .ok (eqL [a, b, c] [a', b', c']) w := by
      have p0 := p (intVals [.u8, .u8, .u8] [a, b, c]).toArray 0 (.int .u8 a) rfl
      have p1 := p (intVals [.u8, .u8, .u8] [a, b, c]).toArray 1 (.int .u8 b) rfl
      have p2 := p (intVals [.u8, .u8, .u8] [a, b, c]).toArray 2 (.int .u8 c) rfl
      have r0 := p (intVals [.u8, .u8, .u8] [a', b', c']).toArray 0 (.int .u8 a') rfl
      have r1 := p (intVals [.u8, .u8, .u8] [a', b', c']).toArray 1 (.int .u8 b') rfl
      have r2 := p (intVals [.u8, .u8, .u8] [a', b', c']).toArray 2 (.int .u8 c') rfl
      rw [show (10000 : Nat) = 9999 + 1 from rfl]
      generalize 9999 = d at q ⊢
      have hsz := hti.size_run w
      rw [hs] at hsz
      simp only [Op.equalIn, Sem.run_bind, run_underlying ht, Result.andThen_ok, hsz]
      rw [Std.Legacy.Range.forIn_eq_forIn_range']
      simp only [Std.Legacy.Range.size, Nat.sub_zero, Nat.reduceAdd, Nat.reduceSub, Nat.div_one, List.range', List.forIn_cons, Sem.run_bind, Nat.mul_one, Nat.zero_add, p0, r0, Result.andThen_ok, q]
      cases h0 : (a == a') <;> cases h1 : (b == b') <;> cases h2 : (c == c') <;> simp [eqL, h0, h1, h2, p1, p2, r1, r2, q]
    constructor
    · simp only [Sem.run_bind, run_eqGuard_agg w .eql t x y _ _ hg, Result.andThen_ok, run_eql_struct, key]
    · simp only [Sem.run_bind, run_eqGuard_agg w .neq t x y _ _ hg, Result.andThen_ok, run_neq_struct, key]
end
end Go.Sx

noncomputable section
namespace Go.Sx
open Go
def rawPs : List TC → List A → Option (List Value)
  | [], [] => some []
  | .int k :: ts, .raw (.int k' n) :: r => bif decide (k = k') then (match rawPs ts r with | some l => some (.int k n :: l) | none => none) else none
  | .bool :: ts, .raw (.bool b) :: r => match rawPs ts r with | some l => some (.bool b :: l) | none => none
  | .str :: ts, .raw (.string s) :: r => match rawPs ts r with | some l => some (.string s :: l) | none => none
  | _, _ => none
def eqP : List Value → List Value → Bool
  | [], [] => true
  | .int _ a :: r, .int _ b :: s => (a == b) && eqP r s
  | .bool a :: r, .bool b :: s => (a == b) && eqP r s
  | .string a :: r, .string b :: s => (a == b) && eqP r s
  | _, _ => false
inductive PsOk : List TC → List Value → Prop
  | nil : PsOk [] []
  | int {ts : List TC} {vs : List Value} (k : IntKind) (n : Int) : PsOk ts vs → PsOk (.int k :: ts) (.int k n :: vs)
  | bool {ts : List TC} {vs : List Value} (b : Bool) : PsOk ts vs → PsOk (.bool :: ts) (.bool b :: vs)
  | str {ts : List TC} {vs : List Value} (s : ByteArray) : PsOk ts vs → PsOk (.str :: ts) (.string s :: vs)
theorem PsOk.len {ts : List TC} {vs : List Value} (h : PsOk ts vs) : vs.length = ts.length := by induction h <;> simp_all
theorem PsOk.split : ∀ {a b : List TC} {vs : List Value}, PsOk (a ++ b) vs → ∃ v1 v2, vs = v1 ++ v2 ∧ PsOk a v1 ∧ PsOk b v2
  | [], b, vs, h => ⟨[], vs, rfl, .nil, h⟩
  | x :: a, b, vs, h => by
    cases h with
    | int k n h => obtain ⟨v1, v2, rfl, h1, h2⟩ := PsOk.split h; exact ⟨_ :: v1, v2, rfl, .int k n h1, h2⟩
    | bool b h => obtain ⟨v1, v2, rfl, h1, h2⟩ := PsOk.split h; exact ⟨_ :: v1, v2, rfl, .bool b h1, h2⟩
    | str s h => obtain ⟨v1, v2, rfl, h1, h2⟩ := PsOk.split h; exact ⟨_ :: v1, v2, rfl, .str s h1, h2⟩
theorem eqP_append {ts : List TC} : ∀ {v v' w w' : List Value}, PsOk ts v → PsOk ts v' → eqP (v ++ w) (v' ++ w') = (eqP v v' && eqP w w') := by
  induction ts with
  | nil => intro v v' w w' h h'; cases h; cases h'; simp [eqP]
  | cons t ts ih =>
    intro v v' w w' h h'
    cases h with
    | int k a h => cases h' with | int _ b h' => simp only [List.cons_append, eqP, Bool.and_assoc, ih h h']
    | bool a h => cases h' with | bool b h' => simp only [List.cons_append, eqP, Bool.and_assoc, ih h h']
    | str a h => cases h' with | str b h' => simp only [List.cons_append, eqP, Bool.and_assoc, ih h h']
theorem rawPs_rel {ρ : List Pl} {H : Heap} : ∀ {ts : List TC} {as : List A} {l us : List Value}, rawPs ts as = some l → AsRel ρ H as us → us = l ∧ PsOk ts l
  | [], [], l, us, h, hu => by
    simp only [rawPs, Option.some.injEq] at h
    subst h
    exact ⟨List.eq_nil_of_length_eq_zero hu.1, .nil⟩
  | t :: ts, a :: r, l, us, h, hu => by
    cases us with
    | nil => have := hu.1; simp at this
    | cons u us =>
      have h1 : ARel ρ H a u := hu.2 0 a u rfl rfl
      have h2 : AsRel ρ H r us := ⟨by have := hu.1; simpa using this, fun j b v hb hv => hu.2 (j + 1) b v (by simpa using hb) (by simpa using hv)⟩
      unfold rawPs at h
      split at h
      · rename_i e _; cases e
      · rename_i k ts' k' n r' e1 e2
        cases e1; cases e2
        by_cases hk : k = k'
        · subst hk
          simp only [decide_true, cond_true] at h
          split at h
          · rename_i l' hl
            cases h
            obtain ⟨rfl, hp⟩ := rawPs_rel hl h2
            exact ⟨by have : u = _ := h1; rw [this], .int k n hp⟩
          · cases h
        · simp [hk] at h
      · rename_i ts' b r' e1 e2
        cases e1; cases e2
        split at h
        · rename_i l' hl
          cases h
          obtain ⟨rfl, hp⟩ := rawPs_rel hl h2
          exact ⟨by have : u = _ := h1; rw [this], .bool b hp⟩
        · cases h
      · rename_i ts' b r' e1 e2
        cases e1; cases e2
        split at h
        · rename_i l' hl
          cases h
          obtain ⟨rfl, hp⟩ := rawPs_rel hl h2
          exact ⟨by have : u = _ := h1; rw [this], .str b hp⟩
        · cases h
      · cases h
  | [], _ :: _, l, us, h, hu => by simp [rawPs] at h
  | t :: _, [], l, us, h, hu => by cases t <;> simp [rawPs] at h

def mkV (ag : Bool) (vs : List Value) : Value := bif ag then .agg vs.toArray else vs.headD undef
def EqT (P : Program) (d : Nat) (t : TypeId) (ag : Bool) (ks : List TC) : Prop :=
  ∀ (w : World) (vs vs' : List Value), PsOk ks vs → PsOk ks vs' → (Op.equalIn d t (mkV ag vs) (mkV ag vs')).run P w = .ok (eqP vs vs') w

def eqFs (g : Nat → Option (List TC)) : Nat → List (Nat × Nat) → Option (List TC)
  | _, [] => some []
  | o, (off, u) :: r => bif Nat.beq off o then (match g u with
    | some ks => match eqFs g (o + ks.length) r with | some l => some (ks ++ l) | none => none
    | none => none) else none
def repK (n : Nat) (ks : List TC) : List TC := match n with | 0 => [] | n + 1 => ks ++ repK n ks
def eqKs (tl : Tab) : Nat → Nat → Option (List TC)
  | 0, _ => none
  | m + 1, t => match lk tl t with
    | some ti => match (match ti.kind with
        | .int k => some [.int k]
        | .bool => some [.bool]
        | .str => some [.str]
        | .st fs => eqFs (eqKs tl m) 0 fs
        | .arr n e => (match eqKs tl m e with | some ks => some (repK n ks) | none => none)
        | _ => none : Option (List TC)) with
      | some ks => bif Nat.beq ks.length ti.size then some ks else none
      | none => none
    | none => none
/-- What is known of a type's equality. -/
def EqG (P : Program) (tl : Tab) (d : Nat) (t : TypeId) (ks : List TC) : Prop :=
  ∃ ti ag, lk tl t = some ti ∧ ti.kind.isAgg = some ag ∧ ti.size = ks.length ∧ (ag = false → ks.length = 1) ∧ EqT P d t ag ks
section
variable {P : Program} {tl : Tab}
theorem part_mk (htl : TabOk P tl) {t : TypeId} {ti : TI} {ag : Bool} {ks : List TC} (hl : lk tl t = some ti) (hk : ti.kind.isAgg = some ag) (hs : ti.size = ks.length) (h1 : ag = false → ks.length = 1)
    {pre v w : List Value} (hv : PsOk ks v) (W : World) : (part t (pre ++ (v ++ w)).toArray pre.length).run P W = .ok (mkV ag v) W := by
  have ht := htl t ti hl
  have hlen := hv.len
  cases ag with
  | true =>
    rw [part_agg ht hk]
    unfold mkV
    simp only [cond_true]
    congr 2
    rw [hs, ← hlen]
    simp
  | false =>
    match v, hlen, h1 rfl with
    | [x], _, _ =>
      rw [part_one ht hk (u := x) (by simp)]
      rfl
    | [], h, h' => simp at h; omega
    | _ :: _ :: _, h, h' => simp at h; omega
theorem eqFields_ok (htl : TabOk P tl) {d m : Nat} {g : Nat → Option (List TC)} (IH : ∀ u ks, g u = some ks → P.keyTypeAt m u = true → EqG P tl d u ks) (W : World) :
    ∀ (F : List Field) (ks : List TC) (pre pre' vs vs' : List Value), eqFs g pre.length (F.map fun f => (f.offset, f.type)) = some ks → (∀ f ∈ F, (f.name != "_" && P.keyTypeAt m f.type) = true) → pre'.length = pre.length →
      PsOk ks vs → PsOk ks vs' → (Op.eqFields d (pre ++ vs).toArray (pre' ++ vs').toArray F).run P W = .ok (eqP vs vs') W
  | [], ks, pre, pre', vs, vs', h, hn, hp, hv, hv' => by
    simp only [List.map_nil, eqFs, Option.some.injEq] at h
    subst h
    cases hv; cases hv'
    rfl
  | f :: F, ks, pre, pre', vs, vs', h, hn, hp, hv, hv' => by
    simp only [List.map_cons, eqFs] at h
    cases hb : Nat.beq f.offset pre.length with
    | false => rw [hb] at h; cases h
    | true =>
    rw [hb] at h
    simp only [cond_true] at h
    have ho := Nat.eq_of_beq_eq_true hb
    split at h
    · rename_i k1 hg
      split at h
      · rename_i k2 hr
        cases h
        obtain ⟨v1, v2, rfl, p1, p2⟩ := hv.split
        obtain ⟨v1', v2', rfl, p1', p2'⟩ := hv'.split
        have hf := hn f (by simp)
        rw [Bool.and_eq_true] at hf
        obtain ⟨ti, ag, e1, e2, e3, e4, e5⟩ := IH _ _ hg hf.2
        have hname : f.name ≠ "_" := by simpa using hf.1
        have q1 := part_mk htl e1 e2 e3 e4 (pre := pre) (w := v2) p1 W
        have q2 := part_mk htl e1 e2 e3 e4 (pre := pre') (w := v2') p1' W
        rw [hp] at q2
        have q3 := e5 W v1 v1' p1 p1'
        have ih := eqFields_ok htl IH W F k2 (pre ++ v1) (pre' ++ v1') v2 v2' (by rw [List.length_append, p1.len]; exact hr) (fun f hf => hn f (by simp [hf])) (by simp [hp, p1.len, p1'.len]) p2 p2'
        rw [eqP_append p1 p1']
        simp only [Op.eqFields, hname, ne_eq, not_false_eq_true, if_true, Sem.run_bind, ho, q1, q2, q3, Result.andThen_ok]
        cases eqP v1 v1' with
        | false => simp
        | true => simpa [List.append_assoc] using ih
      · cases h
    · cases h
theorem eqItems_ok (htl : TabOk P tl) {d e : Nat} {k1 : List TC} (IH : EqG P tl d e k1) (W : World) :
    ∀ (n j : Nat) (pre pre' vs vs' : List Value), pre.length = j * k1.length → pre'.length = j * k1.length → PsOk (repK n k1) vs → PsOk (repK n k1) vs' →
      (Op.eqItems d e k1.length (pre ++ vs).toArray (pre' ++ vs').toArray (List.range' j n)).run P W = .ok (eqP vs vs') W
  | 0, j, pre, pre', vs, vs', h, h', hv, hv' => by
    simp only [repK] at hv hv'
    cases hv; cases hv'
    rfl
  | n + 1, j, pre, pre', vs, vs', h, h', hv, hv' => by
    obtain ⟨v1, v2, rfl, p1, p2⟩ := PsOk.split (a := k1) (b := repK n k1) hv
    obtain ⟨v1', v2', rfl, p1', p2'⟩ := PsOk.split (a := k1) (b := repK n k1) hv'
    have ih := eqItems_ok htl IH W n (j + 1) (pre ++ v1) (pre' ++ v1') v2 v2' (by rw [List.length_append, p1.len, h, Nat.add_mul]; omega) (by rw [List.length_append, p1'.len, h', Nat.add_mul]; omega) p2 p2'
    obtain ⟨ti, ag, e1, e2, e3, e4, e5⟩ := IH
    have q1 := part_mk htl e1 e2 e3 e4 (pre := pre) (w := v2) p1 W
    have q2 := part_mk htl e1 e2 e3 e4 (pre := pre') (w := v2') p1' W
    rw [h] at q1
    rw [h'] at q2
    have q3 := e5 W v1 v1' p1 p1'
    rw [eqP_append p1 p1', List.range'_succ]
    simp only [Op.eqItems, Sem.run_bind, q1, q2, q3, Result.andThen_ok]
    cases eqP v1 v1' with
    | false => simp
    | true => simpa [List.append_assoc] using ih
theorem eqKs_ok (htl : TabOk P tl) (d : Nat) : ∀ (m : Nat) (t : TypeId) (ks : List TC), eqKs tl m t = some ks → P.keyTypeAt m t = true → EqG P tl (d + m) t ks
  | 0, t, ks, h, hk => by cases h
  | m + 1, t, ks, h, hk => by
    have ih := eqKs_ok htl d m
    rw [← Nat.add_assoc]
    simp only [eqKs] at h
    split at h
    case h_2 => cases h
    rename_i ti hl
    split at h
    case h_2 => cases h
    rename_i ks' hks
    cases hb : Nat.beq ks'.length ti.size with
    | false => rw [hb] at h; cases h
    | true =>
    rw [hb] at h
    cases h
    have hs := Nat.eq_of_beq_eq_true hb
    have hti := htl t ti hl
    have hkind := hti.kind
    split at hks
    · rename_i k hkd
      cases hks
      rw [hkd] at hkind
      refine ⟨ti, false, hl, by rw [hkd]; rfl, hs.symm, fun _ => rfl, fun W vs vs' hv hv' => ?_⟩
      cases hv with | int _ a hv => cases hv; cases hv' with | int _ b hv' => cases hv'; simpa [mkV, eqP] using run_equalIn_int W (d + m) t k k a b hkind
    · rename_i hkd
      cases hks
      rw [hkd] at hkind
      refine ⟨ti, false, hl, by rw [hkd]; rfl, hs.symm, fun _ => rfl, fun W vs vs' hv hv' => ?_⟩
      cases hv with | bool a hv => cases hv; cases hv' with | bool b hv' => cases hv'; simpa [mkV, eqP] using run_equalIn_bool W (d + m) t a b hkind
    · rename_i hkd
      cases hks
      rw [hkd] at hkind
      refine ⟨ti, false, hl, by rw [hkd]; rfl, hs.symm, fun _ => rfl, fun W vs vs' hv hv' => ?_⟩
      cases hv with | str a hv => cases hv; cases hv' with | str b hv' => cases hv'; rw [show eqP [.string a] [.string b] = (a.toList == b.toList) by simp only [eqP, Bool.and_true]; exact beq_toListBytes a b]; exact run_equalIn_string W (d + m) t a b hkind
    · rename_i fs hkd
      rw [hkd] at hkind
      obtain ⟨F, hF, hFs⟩ := hkind
      have hfo : P.fieldsOf t = F := by simp [Program.fieldsOf, hF]
      simp only [Program.keyTypeAt, hF, Bool.and_eq_true, Bool.not_eq_true'] at hk
      obtain ⟨⟨h1, _⟩, h3⟩ := hk
      refine ⟨ti, true, hl, by rw [hkd]; rfl, hs.symm, (fun h => by cases h), fun W vs vs' hv hv' => ?_⟩
      have := eqFields_ok (m := m) (d := d + m) (g := eqKs tl m) htl (fun u ks hg hk => ih u ks hg hk) W F.toList ks [] [] vs vs' (by rw [hFs]; exact hks) (fun f hf => by
        have := Array.all_eq_true_iff_forall_mem.1 h1 f (by simpa using hf)
        simpa using this) rfl hv hv'
      have e := run_equalIn_struct (P := P) W (d + m) t vs.toArray vs'.toArray (by rw [hfo]; exact hF) h3
      rw [hfo] at e
      exact e.trans this
    · rename_i n e hkd
      rw [hkd] at hkind
      split at hks
      case h_2 => cases hks
      rename_i k1 hk1
      cases hks
      have hkind : P.underlying t = some (.array n e) := hkind
      simp only [Program.keyTypeAt, hkind] at hk
      have IH := ih e k1 hk1 hk
      refine ⟨ti, true, hl, by rw [hkd]; rfl, hs.symm, (fun h => by cases h), fun W vs vs' hv hv' => ?_⟩
      obtain ⟨ti', ag, e1, e2, e3, e4, e5⟩ := IH
      obtain ⟨i, z, hi, his, _⟩ := (htl e ti' e1).parts
      have hc : P.cellsOf e = k1.length := by simp [Program.cellsOf, hi, his, e3]
      have := eqItems_ok htl ⟨ti', ag, e1, e2, e3, e4, e5⟩ W n 0 [] [] vs vs' (by simp) (by simp) hv hv'
      have e := run_equalIn_array (P := P) W (d + m) vs.toArray vs'.toArray hkind hi
      rw [hc, List.range_eq_range'] at e
      exact e.trans this
    · cases hks
def Env.addEqS (Γ : Env) (t : TypeId) (ks : List TC) : Env :=
  ⟨Γ.call, Γ.ext, fun u as bs => bif Nat.beq u t then (match rawPs ks as, rawPs ks bs with | some l, some l' => some (eqP l l') | _, _ => Option.none) else Γ.eqA u as bs, Γ.force, Γ.eff, Γ.mth, Γ.isC, Γ.callC⟩
theorem EnvOk.addEqS {Γ : Env} (hΓ : EnvOk P Γ) (htl : TabOk P tl) {t : TypeId} {ks : List TC} (hks : eqKs tl 20 t = some ks) (hk : P.keyTypeAt 20 t = true) (hag : (match lk tl t with | some ti => ti.kind.isAgg | _ => Option.none) = some true) (hg : P.eqGuardType P.depth t = false) : EnvOk P (Γ.addEqS t ks) := by
  refine ⟨hΓ.ok, hΓ.ext, fun u as bs b h ρ H us vs hu hv x y w => ?_, hΓ.mth, hΓ.okC⟩
  simp only [Env.addEqS] at h
  cases hb : Nat.beq u t with
  | false => rw [hb] at h; exact hΓ.eqA u as bs b h ρ H us vs hu hv x y w
  | true =>
    rw [hb] at h
    simp only [cond_true] at h
    have e := Nat.eq_of_beq_eq_true hb
    subst e
    split at h
    · rename_i l l' h1 h2
      cases h
      obtain ⟨rfl, a2⟩ := rawPs_rel h1 hu
      obtain ⟨rfl, b2⟩ := rawPs_rel h2 hv
      obtain ⟨ti, ag, e1, e2, _, _, e5⟩ := eqKs_ok htl 9980 20 u ks hks hk
      rw [e1] at hag
      simp only at hag
      rw [e2] at hag
      cases hag
      have key := e5 w us vs a2 b2
      simp only [mkV, cond_true] at key
      constructor
      · simp only [Sem.run_bind, run_eqGuard_agg w .eql u x y _ _ hg, Result.andThen_ok, run_eql_struct, key]
      · simp only [Sem.run_bind, run_eqGuard_agg w .neq u x y _ _ hg, Result.andThen_ok, run_neq_struct, key]
    · cases h
end
end Go.Sx

noncomputable section
namespace Go.Sx
open Go Go.ChangeShapes
/-- A slice of whole numbers that came in: its numbers, where they lie. -/
structure InRow (k : IntKind) (W : World) (v : Value) (l : List Int) (p : Pl) : Prop where
  sl : SlRel p 1 0 l.length v
  cap : l.length ≤ p.cap
  capm : p.cap ≤ maxLen
  virt : p.real = false → p.cap = 0
  cells : p.real = true → ∃ cur t fz, W.heap[p.blk]? = some (.cells cur t fz) ∧ ∀ i, i < l.length → cur[p.off + i]? = some (.int k (l.getD i 0))
  wf : ∀ n ∈ l, (Lit.int k n).wf = true
theorem InRow.obj {k : IntKind} {W : World} {v : Value} {l : List Int} {p : Pl} (h : InRow k W v l p) (ρ : List Pl) (H : Heap) (e : TypeId) : ObjRel ρ H W p (.ro e 1 ((Col.int k l).len : Int) [.int k l]) := by
  refine ⟨⟨by omega, fun c hc => by simp at hc; subst hc; simp, rfl, by omega, ?_, h.capm, h.virt⟩, fun hr => ?_⟩
  · simpa [Col.len] using h.cap
  · obtain ⟨cur, t, fz, h1, h2⟩ := h.cells hr
    refine ⟨cur, t, fz, h1, fun i f c hi hc => ?_⟩
    match f with
    | 0 =>
      cases hc
      refine ⟨_, by simpa using h2 i (by simpa [Col.len] using hi), ?_⟩
      simp [Col.at, ARel]
    | f + 1 => simp at hc
theorem InRow.root {k : IntKind} {W : World} {v : Value} {l : List Int} {p : Pl} (h : InRow k W v l p) {ρ : List Pl} {H : Heap} {i : Nat} (hp : ρ[i]? = some p) : VRel ρ H (.at (.sl i 1 none ((Col.int k l).len : Int))) v :=
  .inr ⟨p, hp, by simpa [Col.len] using h.sl⟩
theorem HRel.ros {W : World} {ps : List Pl} {H : Heap} (hl : ps.length = H.length) (h : ∀ (i : Nat) (p : Pl) (o : AObj), ps[i]? = some p → H[i]? = some o → o.mut = false ∧ ∀ ρ H, ObjRel ρ H W p o) : HRel (fun _ => False) W ps H W := by
  refine ⟨hl, fun i p o hp ho => (h i p o hp ho).2 _ _, ?_, ?_, Kept.refl _ _⟩
  · intro i j p q o o' hp _ ho _ hm
    rw [(h i p o hp ho).1] at hm; cases hm
  · intro i p o hp ho hm
    rw [(h i p o hp ho).1] at hm; cases hm
section
variable {T : Type} {enc : TypeId × Value → T} {P : Program} {w : World} {spare : Nat → Bool} {held : Bool}
theorem inRow_of {t e : TypeId} {k : IntKind} {a : Option Addr} {len cap : Nat} {d : DataW T} {ps : List MemPlace} (ht : P.underlying t = some (.slice e)) (he : P.underlying e = some (.int k)) (hc : P.cellsOf e = 1)
    (h : ∃ fuel, DataW.trod enc P w 0 (fun _ => true) held fuel t [.slice a len cap] = some (d, ps)) :
    ∃ l p, InRow k w (.slice a len cap) l p := by
  obtain ⟨fuel, hf⟩ := h
  rcases open_ints ht he hc hf with ⟨hcs, _⟩ | ⟨x, l, c, zs, hcs, _, hl, hm, hz, _, hcell, hwz⟩
  · simp at hcs
    obtain ⟨rfl, rfl, rfl⟩ := hcs
    exact ⟨[], ⟨0, 0, 0, false⟩, ⟨by simp, by simp, by simp, .inr ⟨rfl, rfl, none, rfl⟩⟩, by simp, by simp [maxLen], by simp, by simp, by simp⟩
  · simp at hcs
    obtain ⟨rfl, rfl, rfl⟩ := hcs
    have hz : zs.length = cap := by simpa using hz
    by_cases h0 : cap = 0
    · subst h0
      have : len = 0 := by omega
      subst this
      exact ⟨[], ⟨0, 0, 0, false⟩, ⟨by simp, by simp, by simp, .inr ⟨rfl, rfl, some x, rfl⟩⟩, by simp, by simp [maxLen], by simp, by simp, by simp⟩
    · obtain ⟨b, off, spot⟩ := x
      have hs : spot = none := by simpa [Addr.add] using World.cell?_spot (hcell 0 (by omega))
      subst hs
      have hlen : (zs.take len).length = len := by simp; omega
      refine ⟨zs.take len, ⟨b, off, cap, true⟩, ⟨by simp, by simp, by rw [hlen]; simp; omega, .inl ⟨rfl, ⟨b, off, none⟩, by rw [hlen]; simp, fun _ => by simp [Pl.addr]⟩⟩, by rw [hlen]; exact hl, hm, by simp, fun _ => ?_, fun n hn => hwz n (List.mem_of_mem_take hn)⟩
      have h00 := hcell 0 (by omega)
      have hblk : ∃ cur t fz, w.heap[b]? = some (.cells cur t fz) := by
        simp only [World.cell?, Addr.add] at h00
        split at h00
        · rename_i cur t fz hh; exact ⟨cur, t, fz, hh⟩
        · cases h00
      obtain ⟨cur, t', fz, hh⟩ := hblk
      refine ⟨cur, t', fz, hh, fun i hi => ?_⟩
      have := hcell i (by rw [hlen] at hi; omega)
      have e1 : Addr.add ⟨b, off, none⟩ i = ⟨b, off + i, none⟩ := by
        unfold Addr.add; split
        · rename_i e; subst e; rfl
        · rfl
      rw [e1] at this
      simp only [World.cell?, hh] at this
      rw [hlen] at hi
      simpa [List.getD_eq_getElem?_getD, List.getElem?_take, hi] using this
end
end Go.Sx

noncomputable section
namespace Go.Sx
open Go Go.ChangeShapes
inductive FK where
  | int (k : IntKind)
  | bool
  | str
def FK.is (k : FK) (c : Col) (n : Nat) : Prop :=
  match k with
  | .int k => ∃ l, c = .int k l ∧ l.length = n ∧ ∀ x ∈ l, (Lit.int k x).wf = true
  | .bool => ∃ l, c = .bool l ∧ l.length = n
  | .str => ∃ l, c = .str l ∧ l.length = n
def AreCols : List FK → List Col → Nat → Prop
  | [], [], _ => True
  | k :: ks, c :: cs, n => k.is c n ∧ AreCols ks cs n
  | _, _, _ => False
/-- A slice of structs that came in: its columns, where they lie. -/
structure InRows (W : World) (v : Value) (n : Nat) (cols : List Col) (p : Pl) : Prop where
  sl : SlRel p cols.length 0 n v
  cap : n ≤ p.cap
  capm : p.cap ≤ maxLen
  virt : p.real = false → p.cap = 0
  pos : 0 < cols.length
  len : ∀ c ∈ cols, c.len = n
  cells : p.real = true → ∃ cur t fz, W.heap[p.blk]? = some (.cells cur t fz) ∧ ∀ (i f : Nat) (c : Col), i < n → cols[f]? = some c → ∃ u, cur[p.off + i * cols.length + f]? = some u ∧ ∀ ρ H, ARel ρ H (c.at i) u
theorem InRows.obj {W : World} {v : Value} {n : Nat} {cols : List Col} {p : Pl} (h : InRows W v n cols p) (ρ : List Pl) (H : Heap) (e : TypeId) : ObjRel ρ H W p (.ro e cols.length (n : Int) cols) := by
  refine ⟨⟨by omega, fun c hc => by rw [h.len c hc]; simp, rfl, h.pos, by simpa using h.cap, h.capm, h.virt⟩, fun hr => ?_⟩
  obtain ⟨cur, t, fz, h1, h2⟩ := h.cells hr
  refine ⟨cur, t, fz, h1, fun i f c hi hc => ?_⟩
  obtain ⟨u, h3, h4⟩ := h2 i f c (by simpa using hi) hc
  exact ⟨u, h3, h4 ρ H⟩
theorem InRows.root {W : World} {v : Value} {n : Nat} {cols : List Col} {p : Pl} (h : InRows W v n cols p) {ρ : List Pl} {H : Heap} {i : Nat} (hp : ρ[i]? = some p) : VRel ρ H (.at (.sl i cols.length none (n : Int))) v :=
  .inr ⟨p, hp, h.sl⟩

def FK.good (k : FK) (u : Value) : Prop :=
  match k with
  | .int k => ∃ n, u = .int k n ∧ (Lit.int k n).wf = true
  | .bool => ∃ b, u = .bool b
  | .str => ∃ s, u = .string s
def FK.mk (k : FK) (n : Nat) (V : Nat → Value) : Col :=
  match k with
  | .int k => .int k ((List.range n).map fun i => match V i with | .int _ x => x | _ => 0)
  | .bool => .bool ((List.range n).map fun i => match V i with | .bool x => x | _ => false)
  | .str => .str ((List.range n).map fun i => match V i with | .string x => x | _ => ByteArray.empty)
theorem FK.mk_is {k : FK} {n : Nat} {V : Nat → Value} (h : ∀ i, i < n → k.good (V i)) : k.is (k.mk n V) n := by
  cases k with
  | int k =>
    refine ⟨_, rfl, by simp, fun x hx => ?_⟩
    obtain ⟨i, hi, rfl⟩ := List.mem_map.1 hx
    obtain ⟨y, hy, hw⟩ := h i (List.mem_range.1 hi)
    rw [hy]; exact hw
  | bool => exact ⟨_, rfl, by simp⟩
  | str => exact ⟨_, rfl, by simp⟩
theorem FK.mk_len {k : FK} {n : Nat} {V : Nat → Value} : (k.mk n V).len = n := by cases k <;> simp [FK.mk, Col.len]
theorem FK.mk_at {k : FK} {n : Nat} {V : Nat → Value} (h : ∀ i, i < n → k.good (V i)) {i : Nat} (hi : i < n) (ρ : List Pl) (H : Heap) : ARel ρ H ((k.mk n V).at i) (V i) := by
  have hg := h i hi
  cases k with
  | int k =>
    obtain ⟨y, hy, _⟩ := hg
    simp [FK.mk, Col.at, ARel, List.getD_eq_getElem?_getD, hi, hy]
  | bool =>
    obtain ⟨y, hy⟩ := hg
    simp [FK.mk, Col.at, ARel, List.getD_eq_getElem?_getD, hi, hy]
  | str =>
    obtain ⟨y, hy⟩ := hg
    simp [FK.mk, Col.at, ARel, List.getD_eq_getElem?_getD, hi, hy]
def mkCols (n : Nat) (V : Nat → Nat → Value) : List FK → Nat → List Col
  | [], _ => []
  | k :: ks, f => k.mk n (fun i => V i f) :: mkCols n V ks (f + 1)
theorem mkCols_length {n : Nat} {V : Nat → Nat → Value} : ∀ (ks : List FK) (f : Nat), (mkCols n V ks f).length = ks.length
  | [], _ => rfl
  | k :: ks, f => by simp [mkCols, mkCols_length ks (f + 1)]
theorem mkCols_are {n : Nat} {V : Nat → Nat → Value} : ∀ (ks : List FK) (f : Nat), (∀ (j : Nat) (k : FK), ks[j]? = some k → ∀ i, i < n → k.good (V i (f + j))) → AreCols ks (mkCols n V ks f) n
  | [], _, _ => trivial
  | k :: ks, f, h => ⟨FK.mk_is (by simpa using h 0 k rfl), mkCols_are ks (f + 1) fun j k' hk i hi => by have := h (j + 1) k' (by simpa using hk) i hi; rwa [show f + (j + 1) = f + 1 + j by omega] at this⟩
theorem mkCols_len {n : Nat} {V : Nat → Nat → Value} : ∀ (ks : List FK) (f : Nat), ∀ c ∈ mkCols n V ks f, c.len = n
  | [], _, c, h => by cases h
  | k :: ks, f, c, h => by
    rcases List.mem_cons.1 h with rfl | h
    · exact FK.mk_len
    · exact mkCols_len ks (f + 1) c h
theorem mkCols_at {n : Nat} {V : Nat → Nat → Value} : ∀ (ks : List FK) (f : Nat), (∀ (j : Nat) (k : FK), ks[j]? = some k → ∀ i, i < n → k.good (V i (f + j))) →
    ∀ (j : Nat) (c : Col), (mkCols n V ks f)[j]? = some c → ∀ i, i < n → ∀ ρ H, ARel ρ H (c.at i) (V i (f + j))
  | [], _, _, j, c, hc => by simp [mkCols] at hc
  | k :: ks, f, h, 0, c, hc => fun i hi ρ H => by
    simp only [mkCols, List.getElem?_cons_zero, Option.some.injEq] at hc
    subst hc
    exact FK.mk_at (V := fun i => V i f) (by simpa using h 0 k rfl) hi ρ H
  | k :: ks, f, h, j + 1, c, hc => fun i hi ρ H => by
    have := mkCols_at ks (f + 1) (fun j k' hk i hi => by have := h (j + 1) k' (by simpa using hk) i hi; rwa [show f + (j + 1) = f + 1 + j by omega] at this) j c (by simpa [mkCols] using hc) i hi ρ H
    rwa [show f + (j + 1) = f + 1 + j by omega]

def fieldB (P : Program) (t : TypeId) : FK → Bool
  | .int k => match P.underlying t with | some (.int k') => decide (k' = k) | _ => false
  | .bool => match P.underlying t with | some .bool => true | _ => false
  | .str => match P.underlying t with | some .string => true | _ => false
def fieldsB (P : Program) : Nat → List Field → List FK → Bool
  | _, [], [] => true
  | j, f :: fs, k :: ks => (f.offset == j) && (P.cellsOf f.type == 1) && fieldB P f.type k && fieldsB P (j + 1) fs ks
  | _, _, _ => false
theorem fieldsB_ok {P : Program} : ∀ (j : Nat) (fs : List Field) (ks : List FK), fieldsB P j fs ks = true → fs.length = ks.length ∧ ∀ (i : Nat) (k : FK), ks[i]? = some k → ∃ f, fs[i]? = some f ∧ f.offset = j + i ∧ P.cellsOf f.type = 1 ∧ fieldB P f.type k = true
  | _, [], [], _ => ⟨rfl, fun i k h => by simp at h⟩
  | _, [], _ :: _, h => by simp [fieldsB] at h
  | _, _ :: _, [], h => by simp [fieldsB] at h
  | j, f :: fs, k :: ks, h => by
    simp only [fieldsB, Bool.and_eq_true, beq_iff_eq] at h
    obtain ⟨⟨⟨h1, h2⟩, h3⟩, h4⟩ := h
    obtain ⟨h5, h6⟩ := fieldsB_ok (j + 1) fs ks h4
    refine ⟨by simp [h5], fun i k' hk => ?_⟩
    cases i with
    | zero => simp at hk; subst hk; exact ⟨f, rfl, h1, h2, h3⟩
    | succ i =>
      obtain ⟨g, g1, g2, g3, g4⟩ := h6 i k' (by simpa using hk)
      exact ⟨g, by simpa using g1, by omega, g3, g4⟩
section
variable {T : Type} {enc : TypeId × Value → T} {P : Program} {w : World} {spare : Nat → Bool} {held : Bool}
theorem fieldB_good {t : TypeId} {k : FK} {fuel base : Nat} {u : Value} {x : DataW T × List MemPlace} (h : fieldB P t k = true) (hx : DataW.trod enc P w base spare held fuel t [u] = some x) : k.good u := by
  cases k with
  | int k =>
    simp only [fieldB] at h
    split at h
    · rename_i k' hk
      have := of_decide_eq_true h
      subst this
      obtain ⟨n, hn, _, hw⟩ := DataW.trod_int hk hx
      exact ⟨n, by simpa using hn, hw⟩
    · cases h
  | bool =>
    simp only [fieldB] at h
    split at h
    · rename_i hk
      obtain ⟨n, hn, _⟩ := DataW.trod_bool hk hx
      exact ⟨n, by simpa using hn⟩
    · cases h
  | str =>
    simp only [fieldB] at h
    split at h
    · rename_i hk
      obtain ⟨n, hn, _⟩ := DataW.trod_string hk hx
      exact ⟨n, by simpa using hn⟩
    · cases h
theorem mkCols_nil : ∀ (ks : List FK) (f : Nat), AreCols ks (mkCols 0 (fun _ _ => undef) ks f) 0 := fun ks f => mkCols_are ks f fun _ _ _ i hi => by omega
theorem inRows_of {t e : TypeId} {fs : Array Field} (ks : List FK) {a : Option Addr} {len cap : Nat} {d : DataW T} {ps : List MemPlace} (ht : P.underlying t = some (.slice e)) (he : P.underlying e = some (.struct fs)) (hc : P.cellsOf e = ks.length)
    (hf : fieldsB P 0 fs.toList ks = true) (hpos : 0 < ks.length)
    (h : ∃ fuel, DataW.trod enc P w 0 (fun _ => true) held fuel t [.slice a len cap] = some (d, ps)) :
    ∃ cols n p, InRows w (.slice a len cap) n cols p ∧ AreCols ks cols n := by
  obtain ⟨fuel, hfu⟩ := h
  obtain ⟨hfl, hfk⟩ := fieldsB_ok 0 fs.toList ks hf
  have none_ (oa : Option Addr) (e1 : a = oa) (e2 : len = 0) (e3 : cap = 0) : ∃ cols n p, InRows w (.slice a len cap) n cols p ∧ AreCols ks cols n := by
    subst e1 e2 e3
    refine ⟨mkCols 0 (fun _ _ => undef) ks 0, 0, ⟨0, 0, 0, false⟩, ⟨⟨by simp, by simp, by simp, .inr ⟨rfl, rfl, a, rfl⟩⟩, by simp, by simp [maxLen], by simp, by rw [mkCols_length]; exact hpos, mkCols_len ks 0, by simp⟩, mkCols_nil ks 0⟩
  rcases Deep.open_slice ht hfu with ⟨hcs, _⟩ | ⟨x, l, c, m, n, D, Pl', hcs, _, hl, hm, hmm, _, hx⟩
  · simp at hcs
    obtain ⟨h1, h2, h3⟩ := hcs
    exact none_ none h1 h2 h3
  · simp at hcs
    obtain ⟨rfl, rfl, rfl⟩ := hcs
    have hmm : m = cap := by simpa using hmm
    subst hmm
    by_cases h0 : m = 0
    · exact none_ _ rfl (by omega) h0
    · obtain ⟨b, off, spot⟩ := x
      rw [hc] at hx
      -- every cell, and that it is good
      have each : ∀ i, i < m → ∃ cs' : List Value, cs'.length = ks.length ∧ (∀ j, j < ks.length → w.cell? (((⟨b, off, spot⟩ : Addr).add (i * ks.length)).add j) = cs'[j]?) ∧ ∀ (j : Nat) (k : FK), ks[j]? = some k → k.good (cs'.getD j undef) := by
        intro i hi
        obtain ⟨cs', h1, h2⟩ := hx i hi
        obtain ⟨_, hlen, hcell⟩ := World.cells?_some h1
        refine ⟨cs', hlen, hcell, fun j k hk => ?_⟩
        obtain ⟨xs, n', _, _, _, hxl, hfs⟩ := DataW.trod_struct he h2
        obtain ⟨f, f1, f2, f3, f4⟩ := hfk j k hk
        have hj : j < ks.length := (List.getElem?_eq_some_iff.1 hk).1
        have g := hfs j f (by simpa using f1)
        have hjx : j < xs.length := by rw [hxl]; have := hfl; simp at this; omega
        rw [f2, f3, Nat.zero_add, List.getElem?_eq_getElem hjx] at g
        have e1 : (cs'.drop j).take 1 = [cs'.getD j undef] := by
          have hj' : j < cs'.length := by omega
          rw [List.drop_eq_getElem_cons hj']
          show [cs'[j]] = _
          rw [List.getD_eq_getElem?_getD, List.getElem?_eq_getElem hj']
          rfl
        rw [e1] at g
        exact fieldB_good f4 g
      obtain ⟨q, hq⟩ := Deep.choose_lt each
      have hs : spot = none := by
        have h3 := (hq 0 (by omega)).2.1 0 hpos
        have hl0 := (hq 0 (by omega)).1
        rw [List.getElem?_eq_getElem (by omega)] at h3
        simpa [Addr.add] using World.cell?_spot h3
      subst hs
      have plus (x : Nat) : ∀ o : Nat, (⟨b, o, none⟩ : Addr).add x = ⟨b, o + x, none⟩ := by
        intro o; unfold Addr.add; split
        · rename_i e; subst e; rfl
        · rfl
      have hblk : ∃ cur t fz, w.heap[b]? = some (.cells cur t fz) := by
        have h3 := (hq 0 (by omega)).2.1 0 hpos
        have hl0 := (hq 0 (by omega)).1
        rw [List.getElem?_eq_getElem (by omega), plus, plus] at h3
        simp only [World.cell?] at h3
        split at h3
        · rename_i cur t fz hh; exact ⟨cur, t, fz, hh⟩
        · cases h3
      obtain ⟨cur, t', fz, hh⟩ := hblk
      have good : ∀ (j : Nat) (k : FK), ks[j]? = some k → ∀ i, i < len → k.good ((q i).getD (0 + j) undef) := fun j k hk i hi => by
        rw [Nat.zero_add]; exact (hq i (by omega)).2.2 j k hk
      refine ⟨mkCols len (fun i f => (q i).getD f undef) ks 0, len, ⟨b, off, m, true⟩, ⟨?_, hl, hm, by simp, by rw [mkCols_length]; exact hpos, mkCols_len ks 0, fun _ => ⟨cur, t', fz, hh, ?_⟩⟩, mkCols_are ks 0 good⟩
      · exact ⟨by simp, by simp, by simp; omega, .inl ⟨rfl, ⟨b, off, none⟩, by simp, fun _ => by simp [Pl.addr]⟩⟩
      · intro i f c hi hcf
        rw [mkCols_length]
        have hf' : f < ks.length := by have := (List.getElem?_eq_some_iff.1 hcf).1; rwa [mkCols_length] at this
        have h3 := (hq i (by omega)).2.1 f hf'
        have hl0 := (hq i (by omega)).1
        rw [plus, plus] at h3
        simp only [World.cell?, hh] at h3
        refine ⟨(q i).getD f undef, ?_, fun ρ H => ?_⟩
        · have h4 : cur[off + i * ks.length + f]? = (q i)[f]? := by simpa using h3
          show cur[off + i * ks.length + f]? = _
          rw [h4, List.getD_eq_getElem?_getD, List.getElem?_eq_getElem (by omega)]; rfl
        · have := mkCols_at ks 0 good f c hcf i hi ρ H
          rwa [Nat.zero_add] at this
end
end Go.Sx
namespace Go.Sx
theorem AreCols.cons_inv {k : FK} {ks : List FK} {cols : List Col} {n : Nat} (h : AreCols (k :: ks) cols n) : ∃ c cs, cols = c :: cs ∧ k.is c n ∧ AreCols ks cs n := by
  cases cols with
  | nil => exact h.elim
  | cons c cs => exact ⟨c, cs, rfl, h.1, h.2⟩
theorem AreCols.nil_inv {cols : List Col} {n : Nat} (h : AreCols [] cols n) : cols = [] := by
  cases cols with
  | nil => rfl
  | cons c cs => exact h.elim
end Go.Sx
/-! ### Structs of plain fields, handed over as they are -/
namespace Go.Sx
open Go Go.ChangeShapes Go.WideShapes
def AreVals : List FK → List Value → Prop
  | [], [] => True
  | k :: ks, v :: vs => k.good v ∧ AreVals ks vs
  | _, _ => False
theorem AreVals.cons_inv {k : FK} {ks : List FK} {vs : List Value} (h : AreVals (k :: ks) vs) : ∃ c cs, vs = c :: cs ∧ k.good c ∧ AreVals ks cs := by
  cases vs with
  | nil => exact h.elim
  | cons c cs => exact ⟨c, cs, rfl, h.1, h.2⟩
theorem AreVals.nil_inv {vs : List Value} (h : AreVals [] vs) : vs = [] := by
  cases vs with
  | nil => rfl
  | cons c cs => exact h.elim
theorem AreVals.of : ∀ (ks : List FK) (vs : List Value), vs.length = ks.length → (∀ (j : Nat) (k : FK), ks[j]? = some k → k.good (vs.getD j undef)) → AreVals ks vs
  | [], [], _, _ => trivial
  | [], _ :: _, h, _ => by simp at h
  | _ :: _, [], h, _ => by simp at h
  | k :: ks, v :: vs, h, hg => ⟨by simpa using hg 0 k rfl, AreVals.of ks vs (by simpa using h) fun j k' hk => by simpa using hg (j + 1) k' (by simpa using hk)⟩
theorem VRel.raws {ρ : List Pl} {H : Heap} (vs : List Value) : VRel ρ H (.agg (vs.map A.raw)) (.agg vs.toArray) := by
  refine ⟨vs, rfl, by simp, fun j a v ha hv => ?_⟩
  simp only [List.getElem?_map, hv, Option.map_some, Option.some.injEq] at ha
  subst ha; rfl
section
variable {T : Type} {enc : TypeId × Value → T} {P : Program} {w w' : World} {spare : Nat → Bool} {held : Bool}
theorem inRec_of {t : TypeId} {fs : Array Field} (ks : List FK) {r : Reach} {base b0 : Nat} {v : Value} {d : DataW T} {ps : List MemPlace} (ht : P.underlying t = some (.struct fs)) (hf : fieldsB P 0 fs.toList ks = true) (hc : P.cellsOf t = ks.length)
    (hv : Value.okWide P w' r b0 t v) (h : DataW.Trod enc P w base spare held t v d ps) : ∃ vs : List Value, v = .agg vs.toArray ∧ AreVals ks vs := by
  obtain ⟨cs, rfl, hsz⟩ := okWide_struct ht hv
  obtain ⟨fuel, hfu⟩ := h
  obtain ⟨hfl, hfk⟩ := fieldsB_ok 0 fs.toList ks hf
  have hcs : (Value.agg cs).cells.toList = cs.toList := rfl
  rw [hcs] at hfu
  obtain ⟨xs, n', _, _, hlen, hxl, hfs⟩ := DataW.trod_struct ht hfu
  refine ⟨cs.toList, by simp, AreVals.of ks cs.toList (by rw [hlen, hc]) fun j k hk => ?_⟩
  obtain ⟨f, f1, f2, f3, f4⟩ := hfk j k hk
  have hj : j < ks.length := (List.getElem?_eq_some_iff.1 hk).1
  have g := hfs j f (by simpa using f1)
  have hjx : j < xs.length := by rw [hxl]; have := hfl; simp at this; omega
  rw [f2, f3, Nat.zero_add, List.getElem?_eq_getElem hjx] at g
  have e1 : (cs.toList.drop j).take 1 = [cs.toList.getD j undef] := by
    have hj' : j < cs.toList.length := by omega
    rw [List.drop_eq_getElem_cons hj']
    show [cs.toList[j]] = _
    rw [List.getD_eq_getElem?_getD, List.getElem?_eq_getElem hj']
    rfl
  rw [e1] at g
  exact fieldB_good f4 g
end
end Go.Sx

noncomputable section
namespace Go.Sx
open Go
def isNilV : V → Bool
  | .at (.raw (.slice none _ _)) => true
  | _ => false
def inlNil (fs : Fns) (tl : Tab) (Γ : Env) : Nat → Env
  | 0 => Γ
  | d + 1 => ⟨Γ.call, Γ.ext, Γ.eqA, Γ.force, fun g => (match lk fs g with | some _ => true | none => Γ.eff g), Γ.mth, fun g => (match lk fs g with | some _ => true | none => Γ.isC g),
      fun f H xs k => match lk fs f with | some fn => bif xs.any isNilV then callCps (inlNil fs tl Γ d) tl fn xs H k else Γ.call false f H xs k | none => Γ.callC f H xs k⟩
section
variable {P : Program} {tl : Tab} {Γ : Env}
theorem EnvOk.call_C (hΓ : EnvOk P Γ) {α : Type} {f : FuncId} {H : Heap} {xs : List V} {k : V → Heap → Option α} {r : α} (h : Γ.call false f H xs k = some r) :
    FnOk P f ∧ ∀ (E : Nat → Prop) (w0 w : World) (ρ : List Pl) (us : List Value), HRel E w0 ρ H w → VsRel ρ H xs us →
      Calls P f us.toArray w fun e w' => ∃ v H' u ρ', k v H' = some r ∧ e = .returned u ∧ Ext ρ H ρ' H' ∧ HRel E w0 ρ' H' w' ∧ VRel ρ' H' v u := by
  obtain ⟨h1, v, H', h2, h3⟩ := hΓ.ok _ _ _ _ _ _ h
  refine ⟨h1, fun E w0 w ρ us hr hus => ?_⟩
  rcases h3 with ⟨rfl, h3⟩ | ⟨_, h3⟩
  · obtain ⟨u, hu, hc⟩ := h3 E w0 w ρ us hr hus
    refine Calls.mono (hc 0) ?_
    rintro e w' ⟨rfl, n, rfl⟩
    exact ⟨v, H', u, ρ, h2, rfl, Ext.refl _ _, hr.drewN n, hu⟩
  · refine Calls.mono (h3 E w0 w ρ us hr hus) ?_
    rintro e w' ⟨u, ρ', rfl, g1, g2, g3⟩
    exact ⟨v, H', u, ρ', h2, rfl, g1, g2, g3⟩
theorem EnvOk.inlNil (hm : P.follows .mixedOrders = true) (htl : TabOk P tl) (hΓ : EnvOk P Γ) {fs : Fns} (hfs : FnsOk P fs) : ∀ d, EnvOk P (Sx.inlNil fs tl Γ d)
  | 0 => hΓ
  | d + 1 => by
    have ih := EnvOk.inlNil hm htl hΓ hfs d
    refine ⟨hΓ.ok, hΓ.ext, hΓ.eqA, hΓ.mth, fun f H xs k r h => ?_⟩
    simp only [Sx.inlNil] at h
    split at h
    · rename_i fn hfn
      cases hx : xs.any isNilV with
      | false => rw [hx] at h; exact hΓ.call_C h
      | true =>
        rw [hx] at h
        simp only [cond_true] at h
        obtain ⟨h1, h2⟩ := hfs f fn hfn
        have hb : fn.body.isNone = false := by
          unfold callCps at h
          split at h
          · rename_i hb; rw [hb]; rfl
          · cases h
        exact ⟨⟨fn, h1, h2, hb⟩, fun E w0 w ρ us hr hus => callCps_ok hm htl ih h1 h hr hus⟩
    · exact hΓ.okC f H xs k r h
end
end Go.Sx

noncomputable section
namespace Go.Sx
open Go
def splitK {α : Type} (call : List V → Option α) (as : List A) (p : Nat) : List Int → Option α
  | [] => none
  | c :: cs => match as[p]? with
    | some (.raw (.int t n)) => br (n == c) (call [.agg (as.set p (.raw (.int t c)))]) (splitK call as p cs)
    | _ => none
def splitC (f : FuncId) (p : Nat) (cs : List Int) (Γ : Env) : Env :=
  ⟨Γ.call, Γ.ext, Γ.eqA, Γ.force, Γ.eff, Γ.mth, Γ.isC, fun g H xs k => bif Nat.beq g f then (match xs with | [.agg as] => splitK (fun xs => Γ.callC g H xs k) as p cs | _ => none) else Γ.callC g H xs k⟩
theorem set_selfA {as : List A} {p : Nat} {a : A} (h : as[p]? = some a) : as.set p a = as := by
  apply List.ext_getElem?
  intro i
  rw [List.getElem?_set]
  by_cases e : p = i
  · subst e
    rw [if_pos rfl]
    obtain ⟨hl, _⟩ := List.getElem?_eq_some_iff.1 h
    rw [if_pos hl, h]
  · rw [if_neg e]
theorem splitK_some {α : Type} {call : List V → Option α} {as : List A} {p : Nat} {r : α} : ∀ {cs : List Int}, splitK call as p cs = some r → call [.agg as] = some r
  | [], h => by cases h
  | c :: cs, h => by
    simp only [splitK] at h
    split at h
    · rename_i t n ha
      cases hb : (n == c) with
      | true =>
        rw [hb] at h
        obtain rfl : n = c := by simpa using hb
        rw [set_selfA ha] at h
        exact h
      | false => rw [hb] at h; exact splitK_some h
    · cases h
theorem EnvOk.splitC {P : Program} {Γ : Env} (hΓ : EnvOk P Γ) (f : FuncId) (p : Nat) (cs : List Int) : EnvOk P (Sx.splitC f p cs Γ) := by
  refine ⟨hΓ.ok, hΓ.ext, hΓ.eqA, hΓ.mth, fun g H xs k r h => ?_⟩
  simp only [Sx.splitC] at h
  cases hb : Nat.beq g f with
  | false => rw [hb] at h; exact hΓ.okC g H xs k r h
  | true =>
    rw [hb] at h
    simp only [cond_true] at h
    split at h
    · exact hΓ.okC g H _ k r (splitK_some h)
    · cases h
end Go.Sx

noncomputable section
namespace Go.Sx
open Go
def aliveAt (H : Heap) (i : Nat) : Bool := match H[i]? with | some o => !o.isDead | none => false
def oldPt (H H' : Heap) : V → Bool
  | .at (.ptr id _) => aliveAt H id && aliveAt H' id
  | _ => false
def inlR (fs : Fns) (tl : Tab) (Γ : Env) : Env :=
  ⟨fun pu f H xs k => match lk fs f with
    | some fn => match callI Γ true tl fn xs H with
      | some (v, H') => bif oldPt H H' v then k v H else none
      | none => none
    | none => Γ.call pu f H xs k, Γ.ext, Γ.eqA, Γ.force, fun g => (match lk fs g with | some _ => false | none => Γ.eff g), Γ.mth, fun g => (match lk fs g with | some _ => false | none => Γ.isC g), Γ.callC⟩
section
variable {P : Program} {tl : Tab} {Γ : Env}
theorem alive_ok {H : Heap} {i : Nat} (h : aliveAt H i = true) : i < H.length ∧ ¬ Gone H i := by
  unfold aliveAt at h
  split at h
  · rename_i o ho
    refine ⟨(List.getElem?_eq_some_iff.1 ho).1, fun hg => ?_⟩
    unfold Gone at hg
    rw [ho] at hg
    cases hg
    simp [AObj.isDead] at h
  · cases h
theorem EnvOk.inlR (hm : P.follows .mixedOrders = true) (htl : TabOk P tl) (hΓ : EnvOk P Γ) {fs : Fns} (hfs : FnsOk P fs) : EnvOk P (Sx.inlR fs tl Γ) := by
  refine ⟨fun pu f H xs k r h => ?_, hΓ.ext, hΓ.eqA, hΓ.mth, hΓ.okC⟩
  simp only [Sx.inlR] at h
  split at h
  · rename_i fn hfn
    obtain ⟨h1, h2⟩ := hfs f fn hfn
    split at h
    · rename_i v H' hc
      have hb : fn.body.isNone = false := by
        unfold callI at hc
        split at hc
        · rename_i hb; rw [hb]; rfl
        · cases hc
      refine ⟨⟨fn, h1, h2, hb⟩, ?_⟩
      cases hp : oldPt H H' v with
      | false => rw [hp] at h; cases h
      | true =>
        rw [hp] at h
        refine ⟨v, H, h, .inl ⟨rfl, fun E w0 w ρ us hr hus => ?_⟩⟩
        unfold oldPt at hp
        split at hp
        · rename_i id off
          simp only [Bool.and_eq_true] at hp
          obtain ⟨a1, _⟩ := alive_ok hp.1
          obtain ⟨_, a2⟩ := alive_ok hp.2
          have hlen : id < ρ.length := by rw [hr.len]; exact a1
          obtain ⟨p, hpl⟩ : ∃ p, ρ[id]? = some p := ⟨ρ[id], List.getElem?_eq_getElem hlen⟩
          refine ⟨.pointer (some (p.addr off)), .inr ⟨p, hpl, rfl⟩, fun j => ?_⟩
          refine Calls.mono (callI_ok hm htl hΓ h1 hc (hr.drewN j) hus) ?_
          rintro e w' ⟨u, ρ', rfl, hx, _, hu, hk⟩
          obtain ⟨m, rfl⟩ := hk rfl
          rcases hu with hg | ⟨p', hp', rfl⟩
          · exact absurd hg a2
          · have := hx id p hpl
            rw [this] at hp'
            cases hp'
            exact ⟨rfl, j + m, by rw [World.drewN_drewN]⟩
        · cases hp
    · cases h
  · exact hΓ.ok pu f H xs k r h
end
end Go.Sx

noncomputable section
namespace Go.Sx
open Go Go.ChangeShapes
section
variable {T : Type} {enc : TypeId × Value → T} {P : Program} {w : World} {spare : Nat → Bool} {held : Bool}
theorem inRows1_of {t e : TypeId} (k : FK) {a : Option Addr} {len cap : Nat} {d : DataW T} {ps : List MemPlace} (ht : P.underlying t = some (.slice e)) (he : fieldB P e k = true) (hc : P.cellsOf e = 1)
    (h : ∃ fuel, DataW.trod enc P w 0 (fun _ => true) held fuel t [.slice a len cap] = some (d, ps)) :
    ∃ cols n p, InRows w (.slice a len cap) n cols p ∧ AreCols [k] cols n := by
  obtain ⟨fuel, hfu⟩ := h
  have none_ (oa : Option Addr) (e1 : a = oa) (e2 : len = 0) (e3 : cap = 0) : ∃ cols n p, InRows w (.slice a len cap) n cols p ∧ AreCols [k] cols n := by
    subst e1 e2 e3
    refine ⟨mkCols 0 (fun _ _ => undef) [k] 0, 0, ⟨0, 0, 0, false⟩, ⟨⟨by simp, by simp, by simp, .inr ⟨rfl, rfl, a, rfl⟩⟩, by simp, by simp [maxLen], by simp, by rw [mkCols_length]; simp, mkCols_len [k] 0, by simp⟩, mkCols_nil [k] 0⟩
  rcases Deep.open_slice ht hfu with ⟨hcs, _⟩ | ⟨x, l, c, m, n, D, Pl', hcs, _, hl, hm, hmm, _, hx⟩
  · simp at hcs
    obtain ⟨h1, h2, h3⟩ := hcs
    exact none_ none h1 h2 h3
  · simp at hcs
    obtain ⟨rfl, rfl, rfl⟩ := hcs
    have hmm : m = cap := by simpa using hmm
    subst hmm
    by_cases h0 : m = 0
    · exact none_ _ rfl (by omega) h0
    · obtain ⟨b, off, spot⟩ := x
      rw [hc] at hx
      have each : ∀ i, i < m → ∃ u : Value, w.cell? ((⟨b, off, spot⟩ : Addr).add (i * 1)) = some u ∧ k.good u := by
        intro i hi
        obtain ⟨cs', h1, h2⟩ := hx i hi
        obtain ⟨_, hlen, hcell⟩ := World.cells?_some h1
        match cs', hlen, hcell, h2 with
        | [u], _, hcell, h2 =>
          have := hcell 0 (by omega)
          refine ⟨u, ?_, fieldB_good he h2⟩
          have e0 : ∀ a : Addr, a.add 0 = a := fun a => by simp [Addr.add]
          rw [e0] at this
          simpa using this
      obtain ⟨q, hq⟩ := Deep.choose_lt each
      have hs : spot = none := by simpa [Addr.add] using World.cell?_spot (hq 0 (by omega)).1
      subst hs
      have plus (x : Nat) : ∀ o : Nat, (⟨b, o, none⟩ : Addr).add x = ⟨b, o + x, none⟩ := by
        intro o; unfold Addr.add; split
        · rename_i e; subst e; rfl
        · rfl
      have hblk : ∃ cur t fz, w.heap[b]? = some (.cells cur t fz) := by
        have h3 := (hq 0 (by omega)).1
        rw [plus] at h3
        simp only [World.cell?] at h3
        split at h3
        · rename_i cur t fz hh; exact ⟨cur, t, fz, hh⟩
        · cases h3
      obtain ⟨cur, t', fz, hh⟩ := hblk
      have good : ∀ (j : Nat) (k' : FK), [k][j]? = some k' → ∀ i, i < len → k'.good (q i) := fun j k' hk i hi => by
        have : k' = k := by
          cases j with
          | zero => simpa using hk.symm
          | succ j => simp at hk
        subst this
        exact (hq i (by omega)).2
      refine ⟨mkCols len (fun i _ => q i) [k] 0, len, ⟨b, off, m, true⟩, ⟨?_, hl, hm, by simp, by rw [mkCols_length]; simp, mkCols_len [k] 0, fun _ => ⟨cur, t', fz, hh, ?_⟩⟩, mkCols_are [k] 0 good⟩
      · exact ⟨by simp, by simp, by simp; omega, .inl ⟨rfl, ⟨b, off, none⟩, by simp, fun _ => by simp [Pl.addr]⟩⟩
      · intro i f c hi hcf
        rw [mkCols_length]
        have hf' : f < [k].length := by have := (List.getElem?_eq_some_iff.1 hcf).1; rwa [mkCols_length] at this
        obtain rfl : f = 0 := by simp at hf'; omega
        have h3 := (hq i (by omega)).1
        rw [plus] at h3
        simp only [World.cell?, hh] at h3
        refine ⟨q i, by simpa using h3, fun ρ H => ?_⟩
        exact mkCols_at [k] 0 good 0 c hcf i hi ρ H
end
end Go.Sx

