/-
  Loops and functions by contract.
-/
import Derived.Test.YtbjpcbghchfifaaGreatDoorSxU
set_option linter.all false
namespace Go.Sx
open Go

def instFr (T : Tm) (ls : List Leaf) : Fr := match inst T ls with | some (fr, _) => fr | none => []
def instH (T : Tm) (ls : List Leaf) : Heap := match inst T ls with | some (_, H) => H | none => []
theorem inst_eq {T : Tm} {ls : List Leaf} {fr : Fr} {H : Heap} (h : inst T ls = some (fr, H)) : instFr T ls = fr ∧ instH T ls = H := by simp [instFr, instH, h]

/-- The leaves of a shape, put to use. -/
def put {α : Type} (T : Tm) (ls : List Leaf) (k : Fr → Heap → Option α) : Option α := match inst T ls with | some (fr, H) => k fr H | none => none
theorem put_some {α : Type} {T : Tm} {ls : List Leaf} {k : Fr → Heap → Option α} {r : α} : put T ls k = some r ↔ ∃ fr H, inst T ls = some (fr, H) ∧ k fr H = some r := by
  unfold put; split
  · rename_i fr H h
    rw [h]
    exact ⟨fun hk => ⟨fr, H, rfl, hk⟩, by rintro ⟨fr', H', h1, h2⟩; cases h1; exact h2⟩
  · rename_i h
    rw [h]
    constructor
    · intro hk; cases hk
    · rintro ⟨fr', H', h1, h2⟩; cases h1

/-- The kinds of a shape's leaves, in their order. -/
inductive Ty where
  | i | b | s | li | lb | ls
def tyC : TC → Ty
  | .int _ => .li
  | .bool => .lb
  | .str => .ls
def tyA : TA → List Ty
  | .int _ => [.i]
  | .bool => [.b]
  | .str => [.s]
  | .sl _ _ => [.i, .i]
  | _ => []
def tyAs : List TA → List Ty
  | [] => []
  | a :: r => tyA a ++ tyAs r
def tyW : TW → List Ty
  | .at a => tyA a
  | .agg as => tyAs as
def tyWs : List TW → List Ty
  | [] => []
  | a :: r => tyW a ++ tyWs r
def tyV : TV → List Ty
  | .w x => tyW x
  | .tup xs => tyWs xs
def tyRoots : List (Nat × TV) → List Ty
  | [] => []
  | (_, a) :: r => tyV a ++ tyRoots r
def tyCells : List TO → List Ty
  | [] => []
  | .cells _ as :: r => tyAs as ++ tyCells r
  | _ :: r => tyCells r
def tyRows : List TO → List Ty
  | [] => []
  | t :: r => (toCols t).map tyC ++ tyRows r
def tysOf (T : Tm) : List Ty := tyRows T.objs ++ (tyCells T.objs ++ tyRoots T.roots)
def unAll {α : Type} : List Ty → List Leaf → (List Leaf → Option α) → Option α
  | [], ls, k => un_nil ls (k [])
  | .i :: t, ls, k => un_i ls fun x r => unAll t r fun l => k (.i x :: l)
  | .b :: t, ls, k => un_b ls fun x r => unAll t r fun l => k (.b x :: l)
  | .s :: t, ls, k => un_s ls fun x r => unAll t r fun l => k (.s x :: l)
  | .li :: t, ls, k => un_li ls fun x r => unAll t r fun l => k (.li x :: l)
  | .lb :: t, ls, k => un_lb ls fun x r => unAll t r fun l => k (.lb x :: l)
  | .ls :: t, ls, k => un_ls ls fun x r => unAll t r fun l => k (.ls x :: l)
theorem unAll_some {α : Type} : ∀ {t : List Ty} {ls : List Leaf} {k : List Leaf → Option α} {r : α}, unAll t ls k = some r → k ls = some r
  | [], ls, k, r, h => by obtain ⟨rfl, h1⟩ := un_nil_some.1 h; exact h1
  | .i :: t, ls, k, r, h => by obtain ⟨x, l, rfl, h1⟩ := un_i_some.1 h; exact unAll_some (t := t) (ls := l) (k := fun l => k (Leaf.i x :: l)) h1
  | .b :: t, ls, k, r, h => by obtain ⟨x, l, rfl, h1⟩ := un_b_some.1 h; exact unAll_some (t := t) (ls := l) (k := fun l => k (Leaf.b x :: l)) h1
  | .s :: t, ls, k, r, h => by obtain ⟨x, l, rfl, h1⟩ := un_s_some.1 h; exact unAll_some (t := t) (ls := l) (k := fun l => k (Leaf.s x :: l)) h1
  | .li :: t, ls, k, r, h => by obtain ⟨x, l, rfl, h1⟩ := un_li_some.1 h; exact unAll_some (t := t) (ls := l) (k := fun l => k (Leaf.li x :: l)) h1
  | .lb :: t, ls, k, r, h => by obtain ⟨x, l, rfl, h1⟩ := un_lb_some.1 h; exact unAll_some (t := t) (ls := l) (k := fun l => k (Leaf.lb x :: l)) h1
  | .ls :: t, ls, k, r, h => by obtain ⟨x, l, rfl, h1⟩ := un_ls_some.1 h; exact unAll_some (t := t) (ls := l) (k := fun l => k (Leaf.ls x :: l)) h1
/-- The leaves of a shape, by names, put to use. -/
def putU {α : Type} (T : Tm) (ls : List Leaf) (k : Fr → Heap → Option α) : Option α := unAll (tysOf T) ls fun l => put T l k
theorem putU_some {α : Type} {T : Tm} {ls : List Leaf} {k : Fr → Heap → Option α} {r : α} (h : putU T ls k = some r) : ∃ fr H, inst T ls = some (fr, H) ∧ k fr H = some r := put_some.1 (unAll_some h)

/-- How a loop is left: by which block, looking how. -/
abbrev Exits := List (Nat × (Tm × List Nat))

def exK {α : Type} : Exits → Nat → (Nat → Tm → List Nat → Option α) → Option α
  | [], _, _ => none
  | (e, (T, c)) :: r, id, k => br (Nat.beq e id) (k e T c) (exK r id k)
theorem exK_some {α : Type} : ∀ {ex : Exits} {id : Nat} {k : Nat → Tm → List Nat → Option α} {r : α}, exK ex id k = some r → ∃ T c, lk ex id = some (T, c) ∧ k id T c = some r
  | [], id, k, r, h => by cases h
  | (e, (T, c)) :: ex, id, k, r, h => by
    simp only [exK] at h
    simp only [lk]
    cases hb : Nat.beq e id with
    | true => rw [hb] at h; have := Nat.eq_of_beq_eq_true hb; subst this; exact ⟨T, c, rfl, h⟩
    | false => rw [hb] at h; exact exK_some (ex := ex) h
def loopE {α : Type} (k0 : Nat) (T : Tm) (cuts : List Nat) (ex : Exits) (rt : Tm) (F : List Leaf → (Nat → List Leaf → Option α) → (List Leaf → Option α) → Option α)
    (fr : Fr) (H : Heap) (kx : Nat → Fr → Heap → Option α) (kr : Fr → Heap → Option α) : Option α :=
  look k0 T cuts fr H fun ls => F ls (fun id ls => exK ex id fun e Tx _ => putU Tx ls (kx e)) (fun ls => putU rt ls kr)
/-- One round of a loop. -/
def loopB {α : Type} (Γ : Env) (Λ : Loops) (pure : Bool) (tl : Tab) (n k0 : Nat) (T : Tm) (cuts : List Nat) (ex : Exits) (rt : Tm) (b : Code)
    (again : List Leaf → Option α) (kx : Nat → List Leaf → Option α) (kr : List Leaf → Option α) (fr : Fr) (H : Heap) : Option α :=
  den Γ Λ pure tl n (fun fr H => look k0 T cuts fr H again) (fun id fr H => exK ex id fun e Tx cx => look k0 Tx cx fr H (kx e)) (fun fr H => look k0 rt [] fr H kr) 10000 [.code b] fr H

section
variable {P : Program} {E : Nat → Prop} {w0 ws w : World} {ρ0 ρ : List Pl} {H : Heap} {n : Nat} {fr : Fr} {a : Act} {tl : Tab} {Γ : Env} {Λ : Loops}

theorem loop_ok (hm : P.follows .mixedOrders = true) (htl : TabOk P tl) (hΓ : EnvOk P Γ) {pure : Bool} {f : FuncId} {fn : Func} (hfn : P.funcs[f]? = some fn) {k0 : Nat} (hk0 : ρ0.length = k0)
    {T rt : Tm} {cuts : List Nat} {ex : Exits} {b : Code} {R : Value → World → Prop} {α : Type}
    {F : Nat → List Leaf → (Nat → List Leaf → Option α) → (List Leaf → Option α) → Option α}
    (h0 : ∀ ls kx kr r, F 0 ls kx kr ≠ some r)
    (hF : ∀ fuel ls kx kr r, F (fuel + 1) ls kx kr = some r → loopB Γ Λ pure tl n k0 T cuts ex rt b (fun ls => F fuel ls kx kr) kx kr (instFr T ls) (instH T ls) = some r)
    (hl : ∀ b' ∈ loopsOf b, LOk P f fn pure E w0 ws n ρ0 Λ b') {k : List Item} {kx : Nat → List Leaf → Option α} {kr : List Leaf → Option α} {r : α}
    (hx : ∀ id Tx cx ls' ρ' H' fr' a' w', lk ex id = some (Tx, cx) → kx id ls' = some r → inst Tx ls' = some (fr', H') → St pure E w0 ws n ρ0 ρ' H' fr' a' w' → ∃ k1, exitTo id k = some k1 ∧ Goes P f a' k1 w' R)
    (hr : ∀ ls' ρ' H' fr' a' w', kr ls' = some r → inst rt ls' = some (fr', H') → St pure E w0 ws n ρ0 ρ' H' fr' a' w' → Ends P fn a' w' R) :
    ∀ (fuel : Nat) {ls : List Leaf} {ρ : List Pl} {H : Heap} {fr : Fr} {a : Act} {w : World}, F fuel ls kx kr = some r → inst T ls = some (fr, H) → St pure E w0 ws n ρ0 ρ H fr a w → Goes P f a (.code b :: .inLoop b :: k) w R
  | 0, ls, ρ, H, fr, a, w, h, hi, hs => absurd h (h0 _ _ _ _)
  | fuel + 1, ls, ρ, H, fr, a, w, h, hi, hs => by
    have h := hF fuel ls kx kr r h
    obtain ⟨e1, e2⟩ := inst_eq hi
    rw [e1, e2] at h
    refine den_ok (K := .inLoop b :: k) (items := [.code b]) hm htl hΓ hfn ?_ ?_ ?_ 10000 h hs fun b' hb => hl b' (by simpa [loopsIt] using hb)
    · intro ρ' H' fr' a' w' hs' h'
      obtain ⟨ls2, fr2, H2, ρ2, h2, hi2, hs2⟩ := look_st hk0 h' hs'
      exact Goes.step (fun b cs => step_inLoop) (loop_ok hm htl hΓ hfn hk0 h0 hF hl hx hr fuel h2 hi2 hs2)
    · intro id ρ' H' fr' a' w' hs' h'
      obtain ⟨Tx, cx, hex, h'⟩ := exK_some h'
      obtain ⟨ls2, fr2, H2, ρ2, h2, hi2, hs2⟩ := look_st hk0 h' hs'
      obtain ⟨k1, hk1, hg⟩ := hx id Tx cx ls2 ρ2 H2 fr2 a' w' hex h2 hi2 hs2
      exact ⟨k1, by simpa [exitTo] using hk1, hg⟩
    · intro ρ' H' fr' a' w' hs' h'
      obtain ⟨ls2, fr2, H2, ρ2, h2, hi2, hs2⟩ := look_st hk0 h' hs'
      exact hr ls2 ρ2 H2 fr2 a' w' h2 hi2 hs2

/-- A loop's contract. -/
theorem lok (hm : P.follows .mixedOrders = true) (htl : TabOk P tl) (hΓ : EnvOk P Γ) {pure : Bool} {f : FuncId} {fn : Func} (hfn : P.funcs[f]? = some fn) {k0 : Nat} (hk0 : ρ0.length = k0)
    {T rt : Tm} {cuts : List Nat} {ex : Exits} {b : Code} {top : Nat}
    {F : {α : Type} → Nat → List Leaf → (Nat → List Leaf → Option α) → (List Leaf → Option α) → Option α}
    (hΛ : ∀ {α : Type} fr H (kx : Nat → Fr → Heap → Option α) kr, Λ.loop b fr H kx kr = loopE k0 T cuts ex rt (F top) fr H kx kr)
    (h0 : ∀ {α : Type} ls kx kr (r : α), F 0 ls kx kr ≠ some r)
    (hF : ∀ {α : Type} fuel ls kx kr (r : α), F (fuel + 1) ls kx kr = some r → loopB Γ Λ pure tl n k0 T cuts ex rt b (fun ls => F fuel ls kx kr) kx kr (instFr T ls) (instH T ls) = some r)
    (hl : ∀ b' ∈ loopsOf b, LOk P f fn pure E w0 ws n ρ0 Λ b') : LOk P f fn pure E w0 ws n ρ0 Λ b := by
  intro α kx kr r ρ H fr a w h hs k R hx hr
  rw [hΛ] at h
  unfold loopE at h
  obtain ⟨ls, fr', H', ρ', h2, hi, hs'⟩ := look_st hk0 h hs
  refine loop_ok hm htl hΓ hfn hk0 (F := F) (fun _ _ _ _ => h0 _ _ _ _) (fun _ _ _ _ _ => hF _ _ _ _ _) hl ?_ ?_ top h2 hi hs'
  · intro id Tx cx ls' ρ' H' fr' a' w' hex hk hi' hs'
    obtain ⟨Tx', cx', hex', hk⟩ := exK_some hk
    rw [hex] at hex'; cases hex'
    obtain ⟨fr2, H2, hi2, hk2⟩ := putU_some hk
    rw [hi'] at hi2; cases hi2
    exact hx id ρ' H' fr' a' w' hs' hk2
  · intro ls' ρ' H' fr' a' w' hk hi' hs'
    obtain ⟨fr2, H2, hi2, hk2⟩ := putU_some hk
    rw [hi'] at hi2; cases hi2
    exact hr ρ' H' fr' a' w' hs' hk2

/-! ### Functions -/
def toW : V → Option W
  | .at a => some (.at a)
  | .agg as => some (.agg as)
  | .tup _ => none
def resW (tl : Tab) (H : Heap) (fr : Fr) : ResultVar → Option W
  | .tmp t => match lk fr t with | some v => toW v | none => none
  | .cell a ty => match lk fr a with
    | some p => match nLoad tl H ty p with
      | some (v, true) => toW v
      | _ => none
    | none => none
def lkWs (tl : Tab) (H : Heap) (fr : Fr) : List ResultVar → Option (List W)
  | [] => some []
  | t :: ts => match resW tl H fr t, lkWs tl H fr ts with | some x, some l => some (x :: l) | _, _ => none
def retV (tl : Tab) (ts : List ResultVar) (fr : Fr) (H : Heap) : Option V :=
  match lkWs tl H fr ts with
  | some [x] => some x.v
  | some l => some (.tup l)
  | none => none

theorem toW_rel {v : V} {x : W} {u : Value} (h : toW v = some x) (hv : VRel ρ H v u) : WRel ρ H x u := by
  cases v <;> simp [toW] at h <;> subst h <;> exact hv
theorem nLoad_addr {t : TypeId} {x v : V} {c : Bool} {u : Value} (h : nLoad tl H t x = some (v, c)) (hx : VRel ρ H x u) : ∃ a, u = .pointer (some a) := by
  unfold nLoad at h
  split at h
  · cases h
  · split at h
    · split at h
      · rename_i id off tt cs hid
        rcases hx with hx | ⟨q, hq, hx⟩
        · rw [Gone, hid] at hx; cases hx
        · exact ⟨_, hx⟩
      · cases h
    · split at h
      · rename_i id sz i f e sz' n cols hid
        rcases hx with hx | ⟨q, hq, hx⟩
        · rw [Gone, hid] at hx; cases hx
        · exact ⟨_, hx⟩
      · rename_i id sz i f e sz' n cols hid
        rcases hx with hx | ⟨q, hq, hx⟩
        · rw [Gone, hid] at hx; cases hx
        · exact ⟨_, hx⟩
      · cases h
    · cases h

def IsRes (a : Act) (F : ResultVar → Sem Value) : Prop := (∀ t, F (.tmp t) = pure (a.tmps.getD t undef)) ∧ ∀ p t, F (.cell p t) = (do loadVar t (← asAddr (a.tmps.getD p undef)))
theorem lkWs_run (htl : TabOk P tl) (hr : HRead ρ H w) {a : Act} (hf : FRel n ρ H fr a) :
    ∀ {ts : List ResultVar} {l : List W}, lkWs tl H fr ts = some l → ∃ us : List Value, (∀ F, IsRes a F → (ts.mapM (m := Sem) F).run P w = .ok us w) ∧ us.length = l.length ∧ ∀ (j : Nat) (x : W) (v : Value), l[j]? = some x → us[j]? = some v → WRel ρ H x v
  | [], l, h => by
    simp only [lkWs, Option.some.injEq] at h
    subst h
    exact ⟨[], fun _ _ => rfl, rfl, fun j x v h => by simp at h⟩
  | t :: ts, l, h => by
    simp only [lkWs] at h
    split at h
    · rename_i x l' h1 h2
      cases h
      obtain ⟨us, e1, e2, e3⟩ := lkWs_run htl hr hf h2
      have key : ∃ u, (∀ F, IsRes a F → (F t).run P w = .ok u w) ∧ WRel ρ H x u := by
        cases t with
        | tmp t =>
          simp only [resW] at h1
          split at h1
          · rename_i v hv
            exact ⟨_, fun F hF => by rw [hF.1]; rfl, toW_rel h1 (hf.slot t v hv)⟩
          · cases h1
        | cell p ty =>
          simp only [resW] at h1
          split at h1
          · rename_i q hq
            split at h1
            · rename_i v hl
              have hs := hf.slot p q hq
              obtain ⟨ad, had⟩ := nLoad_addr hl hs
              obtain ⟨y, hy, hrun⟩ := nLoad_ok htl hr hl rfl hs
              have := hrun w (HSame.of_heap rfl)
              rw [had] at this
              refine ⟨y, fun F hF => ?_, toW_rel h1 hy⟩
              rw [hF.2, had]
              simpa [Instr.loadAt, Instr.sureAddr, asAddr] using this
            · cases h1
          · cases h1
      obtain ⟨u, hu, hur⟩ := key
      refine ⟨u :: us, fun F hF => by simp only [List.mapM_cons, Sem.run_bind, hu F hF, Result.andThen_ok, e1 F hF, Sem.run_pure], by simp [e2], fun j y v hy hv => ?_⟩
      match j with
      | 0 => simp at hy hv; subst hy hv; exact hur
      | j + 1 => simp at hy hv; exact e3 j y v hy hv
    · cases h

theorem retV_run (htl : TabOk P tl) (hr : HRead ρ H w) {fn : Func} {ts : List ResultVar} {fr : Fr} {a : Act} {v : V} (hts : fn.results.toList = ts) (hv : retV tl ts fr H = some v) (hf : FRel n ρ H fr a) :
    ∃ u, (results fn a.tmps).run P w = .ok u w ∧ VRel ρ H v u := by
  unfold retV at hv
  have main : ∀ l, lkWs tl H fr ts = some l → ∃ us : List Value, (results fn a.tmps).run P w = .ok (if h : us.length = 1 then us[0] else .tuple us.toArray) w ∧ us.length = l.length ∧ ∀ (j : Nat) (x : W) (v : Value), l[j]? = some x → us[j]? = some v → WRel ρ H x v := by
    intro l hl
    obtain ⟨us, e1, e2, e3⟩ := lkWs_run (P := P) (w := w) htl hr hf hl
    refine ⟨us, ?_, e2, e3⟩
    unfold results
    rw [Array.mapM_eq_mapM_toList, hts]
    simp only [Sem.run_bind, Sem.run_map]
    rw [e1 _ ⟨fun t => rfl, fun p t => rfl⟩]
    simp
  split at hv
  · rename_i x hl
    cases hv
    obtain ⟨us, e1, e2, e3⟩ := main _ hl
    obtain ⟨u, rfl⟩ := List.length_eq_one_iff.1 e2
    refine ⟨u, by rw [e1]; simp, ?_⟩
    have := e3 0 x u rfl rfl
    cases x <;> exact this
  · rename_i l hne hl
    cases hv
    obtain ⟨us, e1, e2, e3⟩ := main _ hl
    refine ⟨_, e1, ?_⟩
    have h1 : ¬ us.length = 1 := by
      intro h1
      rw [e2] at h1
      obtain ⟨x, rfl⟩ := List.length_eq_one_iff.1 h1
      exact hne x rfl
    rw [dif_neg h1]
    exact ⟨_, rfl, e2, e3⟩
  · cases hv

/-- What a function does, by the leaves of its arguments and of what it gives. -/
structure FnC (P : Program) (f : FuncId) (pure : Bool) (nargs k0 : Nat) (Tin Tout : Tm) (S : List Leaf → Option (List Leaf)) : Prop where
  fn : FnOk P f
  run : ∀ (ls r : List Leaf) (fr : Fr) (H : Heap) (E : Nat → Prop) (w0 w : World) (ρ : List Pl) (us : List Value), S ls = some r → inst Tin ls = some (fr, H) → HRel E w0 ρ H w → us.length = nargs → SRel ρ H fr (fun t => us.getD t undef) →
    Calls P f us.toArray w fun e w' => ∃ u ρ' fr' H' v, e = .returned u ∧ (∀ (i : Nat) (p : Pl), ρ[i]? = some p → ρ'[i]? = some p) ∧ inst Tout r = some (fr', H') ∧ HRel E w0 ρ' H' w' ∧ lk fr' 0 = some v ∧ VRel ρ' H' v u ∧ (pure = true → ∃ k, w' = w.drewN k)

def finish {α : Type} (tl : Tab) (k0 : Nat) (ts : List ResultVar) (Tout : Tm) (cuts : List Nat) (fr : Fr) (H : Heap) (k : List Leaf → Option α) : Option α :=
  match retV tl ts fr H with
  | some v => look k0 Tout cuts [(0, v)] H k
  | none => none
def slotsLt (n : Nat) : List (Nat × TV) → Bool
  | [] => true
  | (s, _) :: r => Nat.ble (s + 1) n && slotsLt n r
theorem slotsLt_ok {rl : Nat → Int} : ∀ {l : List (Nat × TV)} {ls r : List Leaf} {fr : Fr}, slotsLt n l = true → iRoots rl l ls = some (fr, r) → ∀ t v, lk fr t = some v → t < n
  | [], ls, r, fr, h, hi, t, v, hl => by simp only [iRoots, Option.some.injEq, Prod.mk.injEq] at hi; rw [← hi.1] at hl; cases hl
  | (s, x) :: l, ls, r, fr, h, hi, t, v, hl => by
    simp only [slotsLt, Bool.and_eq_true] at h
    simp only [iRoots] at hi
    split at hi
    · split at hi
      · rename_i c r1 _ cs r2 h2
        cases hi
        rw [lk_cons] at hl
        split at hl
        · rename_i e; subst e; exact Nat.le_of_ble_eq_true h.1
        · exact slotsLt_ok h.2 h2 t v hl
      · cases hi
    · cases hi

theorem fn_ok (hm : P.follows .mixedOrders = true) (htl : TabOk P tl) (hΓ : EnvOk P Γ) {pure : Bool} {f : FuncId} {fn : Func} (hfn : P.funcs[f]? = some fn) (hname : (fn.name == "runtime.NumGoroutine") = false) {body : Code} (hbody : fn.body = some body)
    {ts : List ResultVar} (hts : fn.results.toList = ts) {nargs k0 : Nat} {Tin Tout : Tm} {cuts : List Nat} (hsl : slotsLt nargs Tin.roots = true) (hn : nargs ≤ fn.ntmps) (hk0 : Tin.objs.length = k0) {rt : TV} (hout : Tout.roots = [(0, rt)])
    {S : List Leaf → Option (List Leaf)}
    (hS : ∀ ls r, S ls = some r → den Γ Λ pure tl fn.ntmps (fun fr H => finish tl k0 ts Tout cuts fr H some) (fun _ _ _ => none) (fun fr H => finish tl k0 ts Tout cuts fr H some) 10000 [.code body] (instFr Tin ls) (instH Tin ls) = some r)
    (hl : ∀ (E : Nat → Prop) (w0 ws : World) (ρ0 : List Pl), ρ0.length = k0 → ∀ b ∈ loopsOf body, LOk P f fn pure E w0 ws fn.ntmps ρ0 Λ b) : FnC P f pure nargs k0 Tin Tout S := by
  refine ⟨⟨fn, hfn, hname, by rw [hbody]; rfl⟩, ?_⟩
  intro ls r fr H E w0 w ρ us hSr hi hr hlen hs
  have h := hS ls r hSr
  obtain ⟨e1, e2⟩ := inst_eq hi
  rw [e1, e2] at h
  have hH : H.length = k0 := by
    unfold inst at hi
    split at hi
    · rename_i rows r1 _
      split at hi
      · rename_i H1 r2 h2
        split at hi
        · cases hi
          rw [← hk0]
          have key : ∀ {rl : Nat → Int} {ts : List TO} {rows : List (List Col)} {l : List Leaf} {H : Heap} {r : List Leaf}, iObjs rl ts rows l = some (H, r) → H.length = ts.length := by
            intro rl ts
            induction ts with
            | nil => intro rows l H r h; cases rows <;> simp [iObjs] at h; simp [← h.1]
            | cons t ts ih =>
              intro rows l H r h
              cases rows with
              | nil => simp [iObjs] at h
              | cons c cs =>
                simp only [iObjs] at h
                split at h
                · split at h
                  · rename_i h3; cases h; simp [ih h3]
                  · cases h
                · cases h
          exact key h2
        · cases hi
      · cases hi
    · cases hi
  have hρ : ρ.length = k0 := by rw [hr.len, hH]
  have hlt : ∀ t v, lk fr t = some v → t < nargs := by
    unfold inst at hi
    split at hi
    · split at hi
      · split at hi
        · rename_i h3; cases hi; exact slotsLt_ok hsl h3
        · cases hi
      · cases hi
    · cases hi
  let a0 : Act := { tmps := us.toArray ++ Array.replicate (fn.ntmps - us.toArray.size) undef, defers := [] }
  have hframe : FRel fn.ntmps ρ H fr a0 := by
    refine ⟨by simp [a0, hlen]; omega, rfl, fun t v hl => ?_, fun t v hl => by have := hlt t v hl; omega⟩
    have h1 := hlt t v hl
    have h2 := hs t v hl
    have : a0.tmps.getD t undef = us.getD t undef := by
      simp only [a0, Array.getD_eq_getD_getElem?, List.getD_eq_getElem?_getD]
      rw [Array.getElem?_append_left (by simp [hlen]; exact h1)]
      simp
    rw [this]; exact h2
  have hst : St pure E w0 w fn.ntmps ρ ρ H fr a0 w := ⟨fun _ _ h => h, hframe, hr, fun _ => ⟨0, rfl⟩⟩
  have fin : ∀ ρ' H' fr' a' w', St pure E w0 w fn.ntmps ρ ρ' H' fr' a' w' → finish tl k0 ts Tout cuts fr' H' some = some r →
      Ends P fn a' w' fun u w' => ∃ ρ' fr' H' v, (∀ (i : Nat) (p : Pl), ρ[i]? = some p → ρ'[i]? = some p) ∧ inst Tout r = some (fr', H') ∧ HRel E w0 ρ' H' w' ∧ lk fr' 0 = some v ∧ VRel ρ' H' v u ∧ (pure = true → ∃ k, w' = w.drewN k) := by
    intro ρ' H' fr' a' w' hs' h'
    unfold finish at h'
    split at h'
    · rename_i v hv
      obtain ⟨u, hrun, hu⟩ := retV_run (P := P) (w := w') htl hs'.heap.read hts hv hs'.frame
      obtain ⟨ls2, fr2, H2, ρ2, h2, hi2, hr2, hs2, hp2, hsub⟩ := look_ok (g := fun t => bif Nat.beq 0 t then u else undef) h' hs'.heap (by
        intro t v' hl
        rw [lk_cons] at hl
        split at hl
        · rename_i e; subst e; cases hl; exact hu
        · cases hl)
      cases h2
      refine ⟨u, hrun, ρ2, fr2, H2, ?_⟩
      have hroot : ∃ v, lk fr2 0 = some v := by
        unfold inst at hi2
        split at hi2
        · split at hi2
          · split at hi2
            · rename_i h3
              cases hi2
              rw [hout] at h3
              simp only [iRoots] at h3
              split at h3
              · cases h3; exact ⟨_, rfl⟩
              · cases h3
            · cases hi2
          · cases hi2
        · cases hi2
      obtain ⟨v2, hv2⟩ := hroot
      exact ⟨v2, fun i p hi => hp2 i p (by rw [← hρ]; exact (List.getElem?_eq_some_iff.1 hi).1) (hs'.pre i p hi), hi2, hr2, hv2, hs2 0 v2 hv2, hs'.still⟩
    · cases h'
  have hgo := den_ok (K := []) (items := [.code body]) (ρ0 := ρ) hm htl hΓ hfn (R := fun u w' => ∃ ρ' fr' H' v, (∀ (i : Nat) (p : Pl), ρ[i]? = some p → ρ'[i]? = some p) ∧ inst Tout r = some (fr', H') ∧ HRel E w0 ρ' H' w' ∧ lk fr' 0 = some v ∧ VRel ρ' H' v u ∧ (pure = true → ∃ k, w' = w.drewN k))
    (fun ρ' H' fr' a' w' hs' h' => let ⟨u, h1, h2⟩ := fin ρ' H' fr' a' w' hs' h'; Goes.end_ hfn hs'.frame.defers h1 h2)
    (fun id ρ' H' fr' a' w' hs' h' => by cases h') fin 10000 h hst (fun b hb => hl E w0 w ρ hρ b (by simpa [loopsIt] using hb))
  refine Calls.mono (calls_of_goes hfn hbody hgo) ?_
  rintro e w' ⟨u, rfl, ρ', fr', H', v, h1, h2, h3, h4, h5, h6⟩
  exact ⟨u, ρ', fr', H', v, rfl, h1, h2, h3, h4, h5, h6⟩
end
end Go.Sx
