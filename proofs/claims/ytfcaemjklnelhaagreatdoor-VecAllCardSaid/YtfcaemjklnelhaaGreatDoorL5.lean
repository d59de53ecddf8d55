import Derived.Test.YtfcaemjklnelhaaGreatDoorL4
set_option linter.all false
noncomputable section
namespace Go.Sx
open Go

/-! ### The plan: a guess, whose outcome is checked -/
structure Pn where
  k0 : Nat
  ops : List VOp
  ros : List VOp
  pend : List (Nat × Loc)
  next : Nat
  σ : List (Nat × Nat)

def tcEmpty : TC → Col
  | .int k => .int k []
  | .bool => .bool []
  | .str => .str []
def takenBy (σ : List (Nat × Nat)) (id : Nat) : Bool := match σ with
  | [] => false
  | (_, x) :: r => Nat.beq x id || takenBy r id
/-- An expected atom, an atom, where it lies. -/
structure Wk where
  t : TA
  a : A
  l : Option Loc
def cellWk (id : Nat) : Nat → List TA → List A → List Wk
  | j, t :: ts, a :: as => ⟨t, a, some (.cell id j)⟩ :: cellWk id (j + 1) ts as
  | _, _, _ => []
def capsPn : List (Nat × Nat) → List (Nat × Nat) → List Wk
  | (i, o) :: r, (x, _) :: s => ⟨.ptr i o, .ptr x o, none⟩ :: capsPn r s
  | _, _ => []
def aggWk : List TA → List A → List Wk
  | t :: ts, a :: as => ⟨t, a, none⟩ :: aggWk ts as
  | _, _ => []
def partWk (s : Nat) : Nat → List TA → List A → List Wk
  | j, t :: ts, a :: as => ⟨t, a, some (.part s j)⟩ :: partWk s (j + 1) ts as
  | _, _, _ => []
def wWk : TW → W → List Wk
  | .at t, .at a => [⟨t, a, none⟩]
  | .agg ts, .agg as => aggWk ts as
  | _, _ => []
def tupWk : List TW → List W → List Wk
  | t :: ts, a :: as => wWk t a ++ tupWk ts as
  | _, _ => []
def rootWk (fr : Fr) : List (Nat × TV) → List Wk
  | [] => []
  | (s, t) :: r => (match t, lk fr s with
    | .w (.at t), some (.at a) => [⟨t, a, some (.slot s)⟩]
    | .w (.agg ts), some (.agg as) => partWk s 0 ts as
    | .tup ts, some (.tup as) => tupWk ts as
    | _, _ => []) ++ rootWk fr r
def lowOf (o : Option Int) : Bool := match o with | none => true | some _ => false
def hasRo : List VOp → Nat → Bool
  | [], _ => false
  | .ro x :: r, id => Nat.beq x id || hasRo r id
  | _ :: r, id => hasRo r id
def addRo (H : Heap) (id : Nat) (ros : List VOp) : List VOp :=
  match H[id]? with
  | some (.row ..) => bif hasRo ros id then ros else ros ++ [.ro id]
  | _ => ros
/-- One step of the plan. -/
def pnStep (T : Tm) (cuts : List Nat) (H : Heap) (w : Wk) (p : Pn) : Pn × List Wk :=
  match w.t, w.a with
  | .all i _, .raw (.slice none 0 0) =>
    match w.l, T.objs[i]? with
    | some l, some (.row e sz cs) => ({ p with ops := p.ops ++ [.virt l e sz (cs.map tcEmpty)], next := p.next + 1, σ := (i, p.next) :: p.σ }, [])
    | some l, some (.ro e sz cs) => ({ p with ops := p.ops ++ [.virt l e sz (cs.map tcEmpty)], ros := p.ros ++ [.ro p.next], next := p.next + 1, σ := (i, p.next) :: p.σ }, [])
    | _, _ => (p, [])
  | .all i _, .sl id _ off _ =>
    match lk p.σ i with
    | some _ => (p, [])
    | none =>
      match T.objs[i]? with
      | some (.row _ _ _) =>
        bif lowOf off && !(takenBy (cuts.map fun c => (0, c)) i) then
          bif Nat.ble p.k0 i && Nat.ble (id + 1) p.k0 then
            match w.l with
            | some l => ({ p with ops := p.ops ++ [.move l], next := p.next + 1, σ := (i, p.next) :: p.σ }, [])
            | none => (p, [])
          else ({ p with σ := (i, id) :: p.σ }, [])
        else match w.l with
          | some l => ({ p with ops := p.ops ++ [.cut l], next := p.next + 1, σ := (i, p.next) :: p.σ }, [])
          | none => ({ p with σ := (i, id) :: p.σ }, [])
      | some (.ro _ _ _) =>
        bif lowOf off && !(takenBy (cuts.map fun c => (0, c)) i) && !(takenBy p.σ id) then ({ p with ros := addRo H id p.ros, σ := (i, id) :: p.σ }, [])
        else match w.l with
          | some l => ({ p with ros := addRo H id p.ros, pend := p.pend ++ [(i, l)] }, [])
          | none => ({ p with σ := (i, id) :: p.σ }, [])
      | _ => (p, [])
  | .sl i _, .sl id _ _ _ => match lk p.σ i with
    | some _ => (p, [])
    | none => ({ p with ros := (match T.objs[i]? with | some (.ro _ _ _) => addRo H id p.ros | _ => p.ros), σ := (i, id) :: p.σ }, [])
  | .ptr i _, .ptr id _ => match lk p.σ i with
    | some _ => (p, [])
    | none => ({ p with σ := (i, id) :: p.σ }, match T.objs[i]?, H[id]? with | some (.cells _ ts), some (.cells _ as) => cellWk id 0 ts as | _, _ => [])
  | .iface _ i _, .iface _ id _ => match lk p.σ i with
    | some _ => (p, [])
    | none => ({ p with σ := (i, id) :: p.σ }, match T.objs[i]?, H[id]? with | some (.cells _ ts), some (.cells _ as) => cellWk id 0 ts as | _, _ => [])
  | .map i, .map id => match lk p.σ i with | some _ => (p, []) | none => ({ p with σ := (i, id) :: p.σ }, [])
  | .fn _ caps, .fn _ caps' => (p, capsPn caps caps')
  | _, _ => (p, [])
def pnGo (T : Tm) (cuts : List Nat) (H : Heap) : Nat → List Wk → Pn → Pn
  | 0, _, p => p
  | _, [], p => p
  | fuel + 1, w :: ws, p => match pnStep T cuts H w p with | (p', ws') => pnGo T cuts H fuel (ws' ++ ws) p'
def keepOf (σ : List (Nat × Nat)) : Nat → List TO → List Nat
  | _, [] => []
  | i, _ :: r => (match lk σ i with | some id => id | none => i) :: keepOf σ (i + 1) r
def iota : Nat → Nat → List (Nat × Nat)
  | _, 0 => []
  | i, k + 1 => (i, i) :: iota (i + 1) k
def pendIds : Nat → List (Nat × Loc) → List (Nat × Nat)
  | _, [] => []
  | n, (i, _) :: r => (i, n) :: pendIds (n + 1) r
/-- The first k0 objects are those of the same numbers. What stays, what is but lent, what is kept. -/
def planOf (k0 : Nat) (T : Tm) (cuts : List Nat) (fr : Fr) (H : Heap) : List VOp × List VOp × List Nat :=
  let pre : List Wk := (iota 0 k0).flatMap fun (x : Nat × Nat) => (match T.objs[x.1]?, H[x.1]? with | some (TO.cells _ ts), some (AObj.cells _ as) => cellWk x.1 0 ts as | _, _ => [])
  let p := pnGo T cuts H 1000 (rootWk fr T.roots ++ pre) ⟨k0, [], [], [], H.length, iota 0 k0⟩
  (p.ops, p.ros ++ p.pend.map (fun x => .view x.2), keepOf (pendIds p.next p.pend ++ p.σ) 0 T.objs)

/-! ### The look -/
def pre0 : Nat → Nat → List Nat → Bool
  | _, 0, _ => true
  | i, k + 1, x :: r => Nat.beq x i && pre0 (i + 1) k r
  | _, _ + 1, [] => false
theorem pre0_at : ∀ {k : Nat} {i : Nat} {l : List Nat}, pre0 i k l = true → ∀ j, j < k → l[j]? = some (i + j)
  | 0, i, l, _, j, hj => by omega
  | k + 1, i, x :: r, h, j, hj => by
    simp only [pre0, Bool.and_eq_true] at h
    match j with
    | 0 => simp [Nat.eq_of_beq_eq_true h.1]
    | j + 1 =>
      have := pre0_at h.2 j (by omega)
      simp only [List.getElem?_cons_succ, this]
      congr 1; omega
  | k + 1, i, [], h, j, hj => by simp [pre0] at h
def rnFr (m : Nat → Option Nat) (fr : Fr) : Fr := fr.map fun x => (x.1, rnV m x.2)
theorem lk_rnFr {m : Nat → Option Nat} {t : Nat} : ∀ {fr : Fr}, lk (rnFr m fr) t = (lk fr t).map (rnV m)
  | [] => rfl
  | (s, v) :: r => by
    have ih := lk_rnFr (m := m) (t := t) (fr := r)
    simp only [rnFr, List.map_cons, lk] at ih ⊢
    cases Nat.beq s t with
    | true => rfl
    | false => exact ih

def look {α : Type} (k0 : Nat) (T : Tm) (cuts : List Nat) (fr : Fr) (H : Heap) (k : List Leaf → Option α) : Option α :=
  match planOf k0 T cuts fr H with
  | (ops, ops2, keep) => vops (ops ++ ops2) fr H fun fr H =>
    bif noDup keep && pre0 0 k0 keep then
      match restrict keep H with
      | some H' => seen T (rnFr (idx keep) fr) H' k
      | none => none
    else none

section
variable {P : Program} {E : Nat → Prop} {w0 ws w : World} {ρ0 ρ : List Pl} {H : Heap} {n : Nat} {fr : Fr} {a : Act} {g : Nat → Value} {α : Type}

theorem look_ok {k0 : Nat} {T : Tm} {cuts : List Nat} {k : List Leaf → Option α} {r : α} (h : look k0 T cuts fr H k = some r) (hr : HRel E w0 ρ H w) (hs : SRel ρ H fr g) :
    ∃ ls fr' H' ρ', k ls = some r ∧ inst T ls = some (fr', H') ∧ HRel E w0 ρ' H' w ∧ SRel ρ' H' fr' g ∧ (∀ i p, i < k0 → ρ[i]? = some p → ρ'[i]? = some p) ∧ (∀ t v, lk fr' t = some v → ∃ v0, lk fr t = some v0) := by
  unfold look at h
  split at h
  rename_i ops ops2 keep _
  obtain ⟨fr1, H1, h, ⟨ρ1, x1, r1, s1⟩, sub1⟩ := vops_ok (ops ++ ops2) hr hs h
  have p1 := x1.pl
  cases hb : (noDup keep && pre0 0 k0 keep) with
  | false => rw [hb] at h; cases h
  | true =>
    rw [hb] at h
    simp only [cond_true] at h
    rw [Bool.and_eq_true] at hb
    split at h
    · rename_i H2 h2
      have r2 := restrict_rel h2 hb.1 r1
      have hR := Rn.of h2 r1.len
      have s2 : SRel (rnP ρ1 keep) H2 (rnFr (idx keep) fr1) g := by
        intro t v hl
        rw [lk_rnFr] at hl
        simp only [Option.map_eq_some_iff] at hl
        obtain ⟨v0, h0, rfl⟩ := hl
        exact rnV_ok hR.mp (s1 t v0 h0)
      obtain ⟨ls, fr', H', hk, hi, hr', hs', sub, _⟩ := seen_ok h r2 s2
      refine ⟨ls, fr', H', _, hk, hi, hr', hs', fun i p hlt hp => ?_, fun t v ht => ?_⟩
      · have hki := pre0_at hb.2 i hlt
        rw [Nat.zero_add] at hki
        exact hR.place hki (p1 i p hp)
      · obtain ⟨v0, h0⟩ := sub t v ht
        rw [lk_rnFr] at h0
        simp only [Option.map_eq_some_iff] at h0
        obtain ⟨v1, h1, _⟩ := h0
        exact sub1 t v1 h1
    · cases h

theorem look_par {k0 : Nat} {T : Tm} {cuts : List Nat} {k : List Leaf → Option α} {r : α} (h : look k0 T cuts fr H k = some r) : ∃ ls, k ls = some r ∧ look k0 T cuts fr H some = some ls := by
  unfold look at h ⊢
  split at h
  rename_i ops ops2 keep hpl
  obtain ⟨fr1, H1, h, hp⟩ := vops_par (ops ++ ops2) h
  simp only [hp]
  cases hb : (noDup keep && pre0 0 k0 keep) with
  | false => rw [hb] at h; cases h
  | true =>
    rw [hb] at h
    simp only [cond_true] at h ⊢
    split at h
    · rename_i H2 h2
      obtain ⟨ls, hk, hp2⟩ := seen_par h
      exact ⟨ls, hk, by simp only [h2, hp2]⟩
    · cases h

theorem look_st {pure : Bool} {T : Tm} {cuts : List Nat} {k : List Leaf → Option α} {r : α} {k0 : Nat} (hk0 : ρ0.length = k0) (h : look k0 T cuts fr H k = some r) (hs : St pure E w0 ws n ρ0 ρ H fr a w) :
    ∃ ls fr' H' ρ', k ls = some r ∧ inst T ls = some (fr', H') ∧ St pure E w0 ws n ρ0 ρ' H' fr' a w := by
  obtain ⟨ls, fr', H', ρ', hk, hi, hr', hs', hp, sub⟩ := look_ok (g := fun t => a.tmps.getD t undef) h hs.heap hs.frame.slot
  refine ⟨ls, fr', H', ρ', hk, hi, fun i p hi => ?_, ⟨hs.frame.size, hs.frame.defers, hs', fun t v ht => ?_⟩, hr', hs.still⟩
  · exact hp i p (by rw [← hk0]; exact (List.getElem?_eq_some_iff.1 hi).1) (hs.pre i p hi)
  · obtain ⟨v0, h0⟩ := sub t v ht
    exact hs.frame.lt t v0 h0
end

/-! ### Leaves taken one by one -/
def un_i {α : Type} (l : List Leaf) (k : Int → List Leaf → Option α) : Option α := match up3, l with | true, .i n :: r => k n r | _, _ => none
def un_b {α : Type} (l : List Leaf) (k : Bool → List Leaf → Option α) : Option α := match up3, l with | true, .b n :: r => k n r | _, _ => none
def un_s {α : Type} (l : List Leaf) (k : ByteArray → List Leaf → Option α) : Option α := match up3, l with | true, .s n :: r => k n r | _, _ => none
def un_li {α : Type} (l : List Leaf) (k : List Int → List Leaf → Option α) : Option α := match up3, l with | true, .li n :: r => k n r | _, _ => none
def un_lb {α : Type} (l : List Leaf) (k : List Bool → List Leaf → Option α) : Option α := match up3, l with | true, .lb n :: r => k n r | _, _ => none
def un_ls {α : Type} (l : List Leaf) (k : List ByteArray → List Leaf → Option α) : Option α := match up3, l with | true, .ls n :: r => k n r | _, _ => none
def un_nil {α : Type} (l : List Leaf) (k : Option α) : Option α := match up3, l with | true, [] => k | _, _ => none
section
variable {α : Type} {l : List Leaf} {r : α}
theorem un_i_some {k : Int → List Leaf → Option α} : un_i l k = some r ↔ ∃ n l', l = .i n :: l' ∧ k n l' = some r := by
  unfold un_i; split
  · exact ⟨fun h => ⟨_, _, rfl, h⟩, by rintro ⟨n, l', h1, h2⟩; cases h1; exact h2⟩
  · constructor
    · intro h; cases h
    · rintro ⟨n, l', rfl, _⟩; simp_all [up3, up2, up1]
theorem un_b_some {k : Bool → List Leaf → Option α} : un_b l k = some r ↔ ∃ n l', l = .b n :: l' ∧ k n l' = some r := by
  unfold un_b; split
  · exact ⟨fun h => ⟨_, _, rfl, h⟩, by rintro ⟨n, l', h1, h2⟩; cases h1; exact h2⟩
  · constructor
    · intro h; cases h
    · rintro ⟨n, l', rfl, _⟩; simp_all [up3, up2, up1]
theorem un_s_some {k : ByteArray → List Leaf → Option α} : un_s l k = some r ↔ ∃ n l', l = .s n :: l' ∧ k n l' = some r := by
  unfold un_s; split
  · exact ⟨fun h => ⟨_, _, rfl, h⟩, by rintro ⟨n, l', h1, h2⟩; cases h1; exact h2⟩
  · constructor
    · intro h; cases h
    · rintro ⟨n, l', rfl, _⟩; simp_all [up3, up2, up1]
theorem un_li_some {k : List Int → List Leaf → Option α} : un_li l k = some r ↔ ∃ n l', l = .li n :: l' ∧ k n l' = some r := by
  unfold un_li; split
  · exact ⟨fun h => ⟨_, _, rfl, h⟩, by rintro ⟨n, l', h1, h2⟩; cases h1; exact h2⟩
  · constructor
    · intro h; cases h
    · rintro ⟨n, l', rfl, _⟩; simp_all [up3, up2, up1]
theorem un_lb_some {k : List Bool → List Leaf → Option α} : un_lb l k = some r ↔ ∃ n l', l = .lb n :: l' ∧ k n l' = some r := by
  unfold un_lb; split
  · exact ⟨fun h => ⟨_, _, rfl, h⟩, by rintro ⟨n, l', h1, h2⟩; cases h1; exact h2⟩
  · constructor
    · intro h; cases h
    · rintro ⟨n, l', rfl, _⟩; simp_all [up3, up2, up1]
theorem un_ls_some {k : List ByteArray → List Leaf → Option α} : un_ls l k = some r ↔ ∃ n l', l = .ls n :: l' ∧ k n l' = some r := by
  unfold un_ls; split
  · exact ⟨fun h => ⟨_, _, rfl, h⟩, by rintro ⟨n, l', h1, h2⟩; cases h1; exact h2⟩
  · constructor
    · intro h; cases h
    · rintro ⟨n, l', rfl, _⟩; simp_all [up3, up2, up1]
theorem un_nil_some {k : Option α} : un_nil l k = some r ↔ l = [] ∧ k = some r := by
  unfold un_nil; split
  · simp
  · simp_all [up3, up2, up1]
end
end Go.Sx

noncomputable section
namespace Go.Sx
open Go

def instFr (T : Tm) (ls : List Leaf) : Fr := match inst T ls with | some (fr, _) => fr | none => []
def instH (T : Tm) (ls : List Leaf) : Heap := match inst T ls with | some (_, H) => H | none => []
theorem inst_eq {T : Tm} {ls : List Leaf} {fr : Fr} {H : Heap} (h : inst T ls = some (fr, H)) : instFr T ls = fr ∧ instH T ls = H := by simp [instFr, instH, h]

/-- The leaves of a shape, put to use. -/
def put {α : Type} (T : Tm) (ls : List Leaf) (k : Fr → Heap → Option α) : Option α := match inst T ls with | some (fr, H) => k fr H | none => none
theorem put_some {α : Type} {T : Tm} {ls : List Leaf} {k : Fr → Heap → Option α} {r : α} : put T ls k = some r ↔ ∃ fr H, inst T ls = some (fr, H) ∧ k fr H = some r := by
  unfold put; split
  · rename_i fr H h
    rw [h]
    exact ⟨fun hk => ⟨fr, H, rfl, hk⟩, by rintro ⟨fr', H', h1, h2⟩; cases h1; exact h2⟩
  · rename_i h
    rw [h]
    constructor
    · intro hk; cases hk
    · rintro ⟨fr', H', h1, h2⟩; cases h1

/-- The kinds of a shape's leaves, in their order. -/
inductive Ty where
  | i | b | s | li | lb | ls
def tyC : TC → Ty
  | .int _ => .li
  | .bool => .lb
  | .str => .ls
def tyA : TA → List Ty
  | .int _ => [.i]
  | .bool => [.b]
  | .str => [.s]
  | .sl _ _ => [.i, .i]
  | _ => []
def tyAs : List TA → List Ty
  | [] => []
  | a :: r => tyA a ++ tyAs r
def tyW : TW → List Ty
  | .at a => tyA a
  | .agg as => tyAs as
def tyWs : List TW → List Ty
  | [] => []
  | a :: r => tyW a ++ tyWs r
def tyV : TV → List Ty
  | .w x => tyW x
  | .tup xs => tyWs xs
def tyRoots : List (Nat × TV) → List Ty
  | [] => []
  | (_, a) :: r => tyV a ++ tyRoots r
def tyCells : List TO → List Ty
  | [] => []
  | .cells _ as :: r => tyAs as ++ tyCells r
  | _ :: r => tyCells r
def tyRows : List TO → List Ty
  | [] => []
  | t :: r => (toCols t).map tyC ++ tyRows r
def tysOf (T : Tm) : List Ty := tyRows T.objs ++ (tyCells T.objs ++ tyRoots T.roots)
def unAll {α : Type} : List Ty → List Leaf → (List Leaf → Option α) → Option α
  | [], ls, k => un_nil ls (k [])
  | .i :: t, ls, k => un_i ls fun x r => unAll t r fun l => k (.i x :: l)
  | .b :: t, ls, k => un_b ls fun x r => unAll t r fun l => k (.b x :: l)
  | .s :: t, ls, k => un_s ls fun x r => unAll t r fun l => k (.s x :: l)
  | .li :: t, ls, k => un_li ls fun x r => unAll t r fun l => k (.li x :: l)
  | .lb :: t, ls, k => un_lb ls fun x r => unAll t r fun l => k (.lb x :: l)
  | .ls :: t, ls, k => un_ls ls fun x r => unAll t r fun l => k (.ls x :: l)
theorem unAll_some {α : Type} : ∀ {t : List Ty} {ls : List Leaf} {k : List Leaf → Option α} {r : α}, unAll t ls k = some r → k ls = some r
  | [], ls, k, r, h => by obtain ⟨rfl, h1⟩ := un_nil_some.1 h; exact h1
  | .i :: t, ls, k, r, h => by obtain ⟨x, l, rfl, h1⟩ := un_i_some.1 h; exact unAll_some (t := t) (ls := l) (k := fun l => k (Leaf.i x :: l)) h1
  | .b :: t, ls, k, r, h => by obtain ⟨x, l, rfl, h1⟩ := un_b_some.1 h; exact unAll_some (t := t) (ls := l) (k := fun l => k (Leaf.b x :: l)) h1
  | .s :: t, ls, k, r, h => by obtain ⟨x, l, rfl, h1⟩ := un_s_some.1 h; exact unAll_some (t := t) (ls := l) (k := fun l => k (Leaf.s x :: l)) h1
  | .li :: t, ls, k, r, h => by obtain ⟨x, l, rfl, h1⟩ := un_li_some.1 h; exact unAll_some (t := t) (ls := l) (k := fun l => k (Leaf.li x :: l)) h1
  | .lb :: t, ls, k, r, h => by obtain ⟨x, l, rfl, h1⟩ := un_lb_some.1 h; exact unAll_some (t := t) (ls := l) (k := fun l => k (Leaf.lb x :: l)) h1
  | .ls :: t, ls, k, r, h => by obtain ⟨x, l, rfl, h1⟩ := un_ls_some.1 h; exact unAll_some (t := t) (ls := l) (k := fun l => k (Leaf.ls x :: l)) h1
/-- The leaves of a shape, by names, put to use. -/
def putU {α : Type} (T : Tm) (ls : List Leaf) (k : Fr → Heap → Option α) : Option α := unAll (tysOf T) ls fun l => put T l k
theorem putU_some {α : Type} {T : Tm} {ls : List Leaf} {k : Fr → Heap → Option α} {r : α} (h : putU T ls k = some r) : ∃ fr H, inst T ls = some (fr, H) ∧ k fr H = some r := put_some.1 (unAll_some h)

/-- How a loop is left: by which block, looking how. -/
abbrev Exits := List (Nat × (Tm × List Nat))

def exK {α : Type} : Exits → Nat → (Nat → Tm → List Nat → Option α) → Option α
  | [], _, _ => none
  | (e, (T, c)) :: r, id, k => br (Nat.beq e id) (k e T c) (exK r id k)
theorem exK_some {α : Type} : ∀ {ex : Exits} {id : Nat} {k : Nat → Tm → List Nat → Option α} {r : α}, exK ex id k = some r → ∃ T c, lk ex id = some (T, c) ∧ k id T c = some r
  | [], id, k, r, h => by cases h
  | (e, (T, c)) :: ex, id, k, r, h => by
    simp only [exK] at h
    simp only [lk]
    cases hb : Nat.beq e id with
    | true => rw [hb] at h; have := Nat.eq_of_beq_eq_true hb; subst this; exact ⟨T, c, rfl, h⟩
    | false => rw [hb] at h; exact exK_some (ex := ex) h
def loopE {α : Type} (k0 : Nat) (T : Tm) (cuts : List Nat) (ex : Exits) (rt : Tm) (F : List Leaf → (Nat → List Leaf → Option α) → (List Leaf → Option α) → Option α)
    (fr : Fr) (H : Heap) (kx : Nat → Fr → Heap → Option α) (kr : Fr → Heap → Option α) : Option α :=
  look k0 T cuts fr H fun ls => F ls (fun id ls => exK ex id fun e Tx _ => putU Tx ls (kx e)) (fun ls => putU rt ls kr)
/-- One round of a loop. -/
def loopB {α : Type} (Γ : Env) (Λ : Loops) (pure : Bool) (tl : Tab) (n k0 : Nat) (T : Tm) (cuts : List Nat) (ex : Exits) (rt : Tm) (b : Code)
    (again : List Leaf → Option α) (kx : Nat → List Leaf → Option α) (kr : List Leaf → Option α) (fr : Fr) (H : Heap) : Option α :=
  den Γ Λ pure tl n (fun fr H => look k0 T cuts fr H again) (fun id fr H => exK ex id fun e Tx cx => look k0 Tx cx fr H (kx e)) (fun fr H => look k0 rt [] fr H kr) 10000 [.code b] fr H

section
variable {P : Program} {E : Nat → Prop} {w0 ws w : World} {ρ0 ρ : List Pl} {H : Heap} {n : Nat} {fr : Fr} {a : Act} {tl : Tab} {Γ : Env} {Λ : Loops}

theorem loop_ok (hm : P.follows .mixedOrders = true) (htl : TabOk P tl) (hΓ : EnvOk P Γ) {pure : Bool} {f : FuncId} {fn : Func} (hfn : P.funcs[f]? = some fn) {k0 : Nat} (hk0 : ρ0.length = k0)
    {T rt : Tm} {cuts : List Nat} {ex : Exits} {b : Code} {R : Value → World → Prop} {α : Type}
    {F : Nat → List Leaf → (Nat → List Leaf → Option α) → (List Leaf → Option α) → Option α}
    (h0 : ∀ ls kx kr r, F 0 ls kx kr ≠ some r)
    (hF : ∀ fuel ls kx kr r, F (fuel + 1) ls kx kr = some r → loopB Γ Λ pure tl n k0 T cuts ex rt b (fun ls => F fuel ls kx kr) kx kr (instFr T ls) (instH T ls) = some r)
    (hl : ∀ b' ∈ loopsOf b, LOk P f fn pure E w0 ws n ρ0 Λ b') {k : List Item} {kx : Nat → List Leaf → Option α} {kr : List Leaf → Option α} {r : α}
    (hx : ∀ id Tx cx ls' ρ' H' fr' a' w', lk ex id = some (Tx, cx) → kx id ls' = some r → inst Tx ls' = some (fr', H') → St pure E w0 ws n ρ0 ρ' H' fr' a' w' → ∃ k1, exitTo id k = some k1 ∧ Goes P f a' k1 w' R)
    (hr : ∀ ls' ρ' H' fr' a' w', kr ls' = some r → inst rt ls' = some (fr', H') → St pure E w0 ws n ρ0 ρ' H' fr' a' w' → Ends P fn a' w' R) :
    ∀ (fuel : Nat) {ls : List Leaf} {ρ : List Pl} {H : Heap} {fr : Fr} {a : Act} {w : World}, F fuel ls kx kr = some r → inst T ls = some (fr, H) → St pure E w0 ws n ρ0 ρ H fr a w → Goes P f a (.code b :: .inLoop b :: k) w R
  | 0, ls, ρ, H, fr, a, w, h, hi, hs => absurd h (h0 _ _ _ _)
  | fuel + 1, ls, ρ, H, fr, a, w, h, hi, hs => by
    have h := hF fuel ls kx kr r h
    obtain ⟨e1, e2⟩ := inst_eq hi
    rw [e1, e2] at h
    refine den_ok (K := .inLoop b :: k) (items := [.code b]) hm htl hΓ hfn ?_ ?_ ?_ 10000 h hs fun b' hb => hl b' (by simpa [loopsIt] using hb)
    · intro ρ' H' fr' a' w' hs' h'
      obtain ⟨ls2, fr2, H2, ρ2, h2, hi2, hs2⟩ := look_st hk0 h' hs'
      exact Goes.step (fun b cs => step_inLoop) (loop_ok hm htl hΓ hfn hk0 h0 hF hl hx hr fuel h2 hi2 hs2)
    · intro id ρ' H' fr' a' w' hs' h'
      obtain ⟨Tx, cx, hex, h'⟩ := exK_some h'
      obtain ⟨ls2, fr2, H2, ρ2, h2, hi2, hs2⟩ := look_st hk0 h' hs'
      obtain ⟨k1, hk1, hg⟩ := hx id Tx cx ls2 ρ2 H2 fr2 a' w' hex h2 hi2 hs2
      exact ⟨k1, by simpa [exitTo] using hk1, hg⟩
    · intro ρ' H' fr' a' w' hs' h'
      obtain ⟨ls2, fr2, H2, ρ2, h2, hi2, hs2⟩ := look_st hk0 h' hs'
      exact hr ls2 ρ2 H2 fr2 a' w' h2 hi2 hs2

/-- A loop's contract. -/
theorem lok (hm : P.follows .mixedOrders = true) (htl : TabOk P tl) (hΓ : EnvOk P Γ) {pure : Bool} {f : FuncId} {fn : Func} (hfn : P.funcs[f]? = some fn) {k0 : Nat} (hk0 : ρ0.length = k0)
    {T rt : Tm} {cuts : List Nat} {ex : Exits} {b : Code} {top : Nat}
    {F : {α : Type} → Nat → List Leaf → (Nat → List Leaf → Option α) → (List Leaf → Option α) → Option α}
    (hΛ : ∀ {α : Type} fr H (kx : Nat → Fr → Heap → Option α) kr, Λ.loop b fr H kx kr = loopE k0 T cuts ex rt (F top) fr H kx kr)
    (h0 : ∀ {α : Type} ls kx kr (r : α), F 0 ls kx kr ≠ some r)
    (hF : ∀ {α : Type} fuel ls kx kr (r : α), F (fuel + 1) ls kx kr = some r → loopB Γ Λ pure tl n k0 T cuts ex rt b (fun ls => F fuel ls kx kr) kx kr (instFr T ls) (instH T ls) = some r)
    (hl : ∀ b' ∈ loopsOf b, LOk P f fn pure E w0 ws n ρ0 Λ b') : LOk P f fn pure E w0 ws n ρ0 Λ b := by
  intro α kx kr r ρ H fr a w h hs k R hx hr
  rw [hΛ] at h
  unfold loopE at h
  obtain ⟨ls, fr', H', ρ', h2, hi, hs'⟩ := look_st hk0 h hs
  refine loop_ok hm htl hΓ hfn hk0 (F := F) (fun _ _ _ _ => h0 _ _ _ _) (fun _ _ _ _ _ => hF _ _ _ _ _) hl ?_ ?_ top h2 hi hs'
  · intro id Tx cx ls' ρ' H' fr' a' w' hex hk hi' hs'
    obtain ⟨Tx', cx', hex', hk⟩ := exK_some hk
    rw [hex] at hex'; cases hex'
    obtain ⟨fr2, H2, hi2, hk2⟩ := putU_some hk
    rw [hi'] at hi2; cases hi2
    exact hx id ρ' H' fr' a' w' hs' hk2
  · intro ls' ρ' H' fr' a' w' hk hi' hs'
    obtain ⟨fr2, H2, hi2, hk2⟩ := putU_some hk
    rw [hi'] at hi2; cases hi2
    exact hr ρ' H' fr' a' w' hs' hk2

/-! ### Functions -/
def toW : V → Option W
  | .at a => some (.at a)
  | .agg as => some (.agg as)
  | .tup _ => none
def resW (tl : Tab) (H : Heap) (fr : Fr) : ResultVar → Option W
  | .tmp t => match lk fr t with | some v => toW v | none => none
  | .cell a ty => match lk fr a with
    | some p => match nLoad tl H ty p with
      | some (v, true) => toW v
      | _ => none
    | none => none
def lkWs (tl : Tab) (H : Heap) (fr : Fr) : List ResultVar → Option (List W)
  | [] => some []
  | t :: ts => match resW tl H fr t, lkWs tl H fr ts with | some x, some l => some (x :: l) | _, _ => none
def retV (tl : Tab) (ts : List ResultVar) (fr : Fr) (H : Heap) : Option V :=
  match lkWs tl H fr ts with
  | some [x] => some x.v
  | some l => some (.tup l)
  | none => none

theorem toW_rel {v : V} {x : W} {u : Value} (h : toW v = some x) (hv : VRel ρ H v u) : WRel ρ H x u := by
  cases v <;> simp [toW] at h <;> subst h <;> exact hv
theorem nLoad_addr {t : TypeId} {x v : V} {c : Bool} {u : Value} (h : nLoad tl H t x = some (v, c)) (hx : VRel ρ H x u) : ∃ a, u = .pointer (some a) := by
  unfold nLoad at h
  split at h
  · cases h
  · split at h
    · split at h
      · rename_i id off tt cs hid
        rcases hx with hx | ⟨q, hq, hx⟩
        · rw [Gone, hid] at hx; cases hx
        · exact ⟨_, hx⟩
      · cases h
    · split at h
      · rename_i id sz i f e sz' n cols hid
        rcases hx with hx | ⟨q, hq, hx⟩
        · rw [Gone, hid] at hx; cases hx
        · exact ⟨_, hx⟩
      · rename_i id sz i f e sz' n cols hid
        rcases hx with hx | ⟨q, hq, hx⟩
        · rw [Gone, hid] at hx; cases hx
        · exact ⟨_, hx⟩
      · rename_i id sz i f tt cs hid
        rcases hx with hx | ⟨q, hq, hx⟩
        · rw [Gone, hid] at hx; cases hx
        · exact ⟨_, hx⟩
      · cases h
    · cases h

def IsRes (a : Act) (F : ResultVar → Sem Value) : Prop := (∀ t, F (.tmp t) = pure (a.tmps.getD t undef)) ∧ ∀ p t, F (.cell p t) = (do loadVar t (← asAddr (a.tmps.getD p undef)))
theorem lkWs_run (htl : TabOk P tl) (hr : HRead ρ H w) {a : Act} (hf : FRel n ρ H fr a) :
    ∀ {ts : List ResultVar} {l : List W}, lkWs tl H fr ts = some l → ∃ us : List Value, (∀ F, IsRes a F → (ts.mapM (m := Sem) F).run P w = .ok us w) ∧ us.length = l.length ∧ ∀ (j : Nat) (x : W) (v : Value), l[j]? = some x → us[j]? = some v → WRel ρ H x v
  | [], l, h => by
    simp only [lkWs, Option.some.injEq] at h
    subst h
    exact ⟨[], fun _ _ => rfl, rfl, fun j x v h => by simp at h⟩
  | t :: ts, l, h => by
    simp only [lkWs] at h
    split at h
    · rename_i x l' h1 h2
      cases h
      obtain ⟨us, e1, e2, e3⟩ := lkWs_run htl hr hf h2
      have key : ∃ u, (∀ F, IsRes a F → (F t).run P w = .ok u w) ∧ WRel ρ H x u := by
        cases t with
        | tmp t =>
          simp only [resW] at h1
          split at h1
          · rename_i v hv
            exact ⟨_, fun F hF => by rw [hF.1]; rfl, toW_rel h1 (hf.slot t v hv)⟩
          · cases h1
        | cell p ty =>
          simp only [resW] at h1
          split at h1
          · rename_i q hq
            split at h1
            · rename_i v hl
              have hs := hf.slot p q hq
              obtain ⟨ad, had⟩ := nLoad_addr hl hs
              obtain ⟨y, hy, hrun⟩ := nLoad_ok htl hr hl rfl hs
              have := hrun w (HSame.of_heap rfl)
              rw [had] at this
              refine ⟨y, fun F hF => ?_, toW_rel h1 hy⟩
              rw [hF.2, had]
              simpa [Instr.loadAt, Instr.sureAddr, asAddr] using this
            · cases h1
          · cases h1
      obtain ⟨u, hu, hur⟩ := key
      refine ⟨u :: us, fun F hF => by simp only [List.mapM_cons, Sem.run_bind, hu F hF, Result.andThen_ok, e1 F hF, Sem.run_pure], by simp [e2], fun j y v hy hv => ?_⟩
      match j with
      | 0 => simp at hy hv; subst hy hv; exact hur
      | j + 1 => simp at hy hv; exact e3 j y v hy hv
    · cases h

theorem retV_run (htl : TabOk P tl) (hr : HRead ρ H w) {fn : Func} {ts : List ResultVar} {fr : Fr} {a : Act} {v : V} (hts : fn.results.toList = ts) (hv : retV tl ts fr H = some v) (hf : FRel n ρ H fr a) :
    ∃ u, (results fn a.tmps).run P w = .ok u w ∧ VRel ρ H v u := by
  unfold retV at hv
  have main : ∀ l, lkWs tl H fr ts = some l → ∃ us : List Value, (results fn a.tmps).run P w = .ok (if h : us.length = 1 then us[0] else .tuple us.toArray) w ∧ us.length = l.length ∧ ∀ (j : Nat) (x : W) (v : Value), l[j]? = some x → us[j]? = some v → WRel ρ H x v := by
    intro l hl
    obtain ⟨us, e1, e2, e3⟩ := lkWs_run (P := P) (w := w) htl hr hf hl
    refine ⟨us, ?_, e2, e3⟩
    unfold results
    rw [Array.mapM_eq_mapM_toList, hts]
    simp only [Sem.run_bind, Sem.run_map]
    rw [e1 _ ⟨fun t => rfl, fun p t => rfl⟩]
    simp
  split at hv
  · rename_i x hl
    cases hv
    obtain ⟨us, e1, e2, e3⟩ := main _ hl
    obtain ⟨u, rfl⟩ := List.length_eq_one_iff.1 e2
    refine ⟨u, by rw [e1]; simp, ?_⟩
    have := e3 0 x u rfl rfl
    cases x <;> exact this
  · rename_i l hne hl
    cases hv
    obtain ⟨us, e1, e2, e3⟩ := main _ hl
    refine ⟨_, e1, ?_⟩
    have h1 : ¬ us.length = 1 := by
      intro h1
      rw [e2] at h1
      obtain ⟨x, rfl⟩ := List.length_eq_one_iff.1 h1
      exact hne x rfl
    rw [dif_neg h1]
    exact ⟨_, rfl, e2, e3⟩
  · cases hv

/-- What a function does, by the leaves of its arguments and of what it gives. -/
structure FnC (P : Program) (f : FuncId) (pure : Bool) (nargs k0 : Nat) (Tin Tout : Tm) (S : List Leaf → Option (List Leaf)) : Prop where
  fn : FnOk P f
  run : ∀ (ls r : List Leaf) (fr : Fr) (H : Heap) (E : Nat → Prop) (w0 w : World) (ρ : List Pl) (us : List Value), S ls = some r → inst Tin ls = some (fr, H) → HRel E w0 ρ H w → us.length = nargs → SRel ρ H fr (fun t => us.getD t undef) →
    Calls P f us.toArray w fun e w' => ∃ u ρ' fr' H' v, e = .returned u ∧ (∀ (i : Nat) (p : Pl), ρ[i]? = some p → ρ'[i]? = some p) ∧ inst Tout r = some (fr', H') ∧ HRel E w0 ρ' H' w' ∧ lk fr' 0 = some v ∧ VRel ρ' H' v u ∧ (pure = true → ∃ k, w' = w.drewN k)

def finish {α : Type} (tl : Tab) (k0 : Nat) (ts : List ResultVar) (Tout : Tm) (cuts : List Nat) (fr : Fr) (H : Heap) (k : List Leaf → Option α) : Option α :=
  match retV tl ts fr H with
  | some v => look k0 Tout cuts [(0, v)] H k
  | none => none
def slotsLt (n : Nat) : List (Nat × TV) → Bool
  | [] => true
  | (s, _) :: r => Nat.ble (s + 1) n && slotsLt n r
theorem slotsLt_ok {rl : Nat → Int} : ∀ {l : List (Nat × TV)} {ls r : List Leaf} {fr : Fr}, slotsLt n l = true → iRoots rl l ls = some (fr, r) → ∀ t v, lk fr t = some v → t < n
  | [], ls, r, fr, h, hi, t, v, hl => by simp only [iRoots, Option.some.injEq, Prod.mk.injEq] at hi; rw [← hi.1] at hl; cases hl
  | (s, x) :: l, ls, r, fr, h, hi, t, v, hl => by
    simp only [slotsLt, Bool.and_eq_true] at h
    simp only [iRoots] at hi
    split at hi
    · split at hi
      · rename_i c r1 _ cs r2 h2
        cases hi
        rw [lk_cons] at hl
        split at hl
        · rename_i e; subst e; exact Nat.le_of_ble_eq_true h.1
        · exact slotsLt_ok h.2 h2 t v hl
      · cases hi
    · cases hi

theorem fn_ok (hm : P.follows .mixedOrders = true) (htl : TabOk P tl) (hΓ : EnvOk P Γ) {pure : Bool} {f : FuncId} {fn : Func} (hfn : P.funcs[f]? = some fn) (hname : (fn.name == "runtime.NumGoroutine") = false) {body : Code} (hbody : fn.body = some body)
    {ts : List ResultVar} (hts : fn.results.toList = ts) {nargs k0 : Nat} {Tin Tout : Tm} {cuts : List Nat} (hsl : slotsLt nargs Tin.roots = true) (hn : nargs ≤ fn.ntmps) (hk0 : Tin.objs.length = k0) {rt : TV} (hout : Tout.roots = [(0, rt)])
    {S : List Leaf → Option (List Leaf)}
    (hS : ∀ ls r, S ls = some r → den Γ Λ pure tl fn.ntmps (fun fr H => finish tl k0 ts Tout cuts fr H some) (fun _ _ _ => none) (fun fr H => finish tl k0 ts Tout cuts fr H some) 10000 [.code body] (instFr Tin ls) (instH Tin ls) = some r)
    (hl : ∀ (E : Nat → Prop) (w0 ws : World) (ρ0 : List Pl), ρ0.length = k0 → ∀ b ∈ loopsOf body, LOk P f fn pure E w0 ws fn.ntmps ρ0 Λ b) : FnC P f pure nargs k0 Tin Tout S := by
  refine ⟨⟨fn, hfn, hname, by rw [hbody]; rfl⟩, ?_⟩
  intro ls r fr H E w0 w ρ us hSr hi hr hlen hs
  have h := hS ls r hSr
  obtain ⟨e1, e2⟩ := inst_eq hi
  rw [e1, e2] at h
  have hH : H.length = k0 := by
    unfold inst at hi
    split at hi
    · rename_i rows r1 _
      split at hi
      · rename_i H1 r2 h2
        split at hi
        · cases hi
          rw [← hk0]
          have key : ∀ {rl : Nat → Int} {ts : List TO} {rows : List (List Col)} {l : List Leaf} {H : Heap} {r : List Leaf}, iObjs rl ts rows l = some (H, r) → H.length = ts.length := by
            intro rl ts
            induction ts with
            | nil => intro rows l H r h; cases rows <;> simp [iObjs] at h; simp [← h.1]
            | cons t ts ih =>
              intro rows l H r h
              cases rows with
              | nil => simp [iObjs] at h
              | cons c cs =>
                simp only [iObjs] at h
                split at h
                · split at h
                  · rename_i h3; cases h; simp [ih h3]
                  · cases h
                · cases h
          exact key h2
        · cases hi
      · cases hi
    · cases hi
  have hρ : ρ.length = k0 := by rw [hr.len, hH]
  have hlt : ∀ t v, lk fr t = some v → t < nargs := by
    unfold inst at hi
    split at hi
    · split at hi
      · split at hi
        · rename_i h3; cases hi; exact slotsLt_ok hsl h3
        · cases hi
      · cases hi
    · cases hi
  let a0 : Act := { tmps := us.toArray ++ Array.replicate (fn.ntmps - us.toArray.size) undef, defers := [] }
  have hframe : FRel fn.ntmps ρ H fr a0 := by
    refine ⟨by simp [a0, hlen]; omega, rfl, fun t v hl => ?_, fun t v hl => by have := hlt t v hl; omega⟩
    have h1 := hlt t v hl
    have h2 := hs t v hl
    have : a0.tmps.getD t undef = us.getD t undef := by
      simp only [a0, Array.getD_eq_getD_getElem?, List.getD_eq_getElem?_getD]
      rw [Array.getElem?_append_left (by simp [hlen]; exact h1)]
      simp
    rw [this]; exact h2
  have hst : St pure E w0 w fn.ntmps ρ ρ H fr a0 w := ⟨fun _ _ h => h, hframe, hr, fun _ => ⟨0, rfl⟩⟩
  have fin : ∀ ρ' H' fr' a' w', St pure E w0 w fn.ntmps ρ ρ' H' fr' a' w' → finish tl k0 ts Tout cuts fr' H' some = some r →
      Ends P fn a' w' fun u w' => ∃ ρ' fr' H' v, (∀ (i : Nat) (p : Pl), ρ[i]? = some p → ρ'[i]? = some p) ∧ inst Tout r = some (fr', H') ∧ HRel E w0 ρ' H' w' ∧ lk fr' 0 = some v ∧ VRel ρ' H' v u ∧ (pure = true → ∃ k, w' = w.drewN k) := by
    intro ρ' H' fr' a' w' hs' h'
    unfold finish at h'
    split at h'
    · rename_i v hv
      obtain ⟨u, hrun, hu⟩ := retV_run (P := P) (w := w') htl hs'.heap.read hts hv hs'.frame
      obtain ⟨ls2, fr2, H2, ρ2, h2, hi2, hr2, hs2, hp2, hsub⟩ := look_ok (g := fun t => bif Nat.beq 0 t then u else undef) h' hs'.heap (by
        intro t v' hl
        rw [lk_cons] at hl
        split at hl
        · rename_i e; subst e; cases hl; exact hu
        · cases hl)
      cases h2
      refine ⟨u, hrun, ρ2, fr2, H2, ?_⟩
      have hroot : ∃ v, lk fr2 0 = some v := by
        unfold inst at hi2
        split at hi2
        · split at hi2
          · split at hi2
            · rename_i h3
              cases hi2
              rw [hout] at h3
              simp only [iRoots] at h3
              split at h3
              · cases h3; exact ⟨_, rfl⟩
              · cases h3
            · cases hi2
          · cases hi2
        · cases hi2
      obtain ⟨v2, hv2⟩ := hroot
      exact ⟨v2, fun i p hi => hp2 i p (by rw [← hρ]; exact (List.getElem?_eq_some_iff.1 hi).1) (hs'.pre i p hi), hi2, hr2, hv2, hs2 0 v2 hv2, hs'.still⟩
    · cases h'
  have hgo := den_ok (K := []) (items := [.code body]) (ρ0 := ρ) hm htl hΓ hfn (R := fun u w' => ∃ ρ' fr' H' v, (∀ (i : Nat) (p : Pl), ρ[i]? = some p → ρ'[i]? = some p) ∧ inst Tout r = some (fr', H') ∧ HRel E w0 ρ' H' w' ∧ lk fr' 0 = some v ∧ VRel ρ' H' v u ∧ (pure = true → ∃ k, w' = w.drewN k))
    (fun ρ' H' fr' a' w' hs' h' => let ⟨u, h1, h2⟩ := fin ρ' H' fr' a' w' hs' h'; Goes.end_ hfn hs'.frame.defers h1 h2)
    (fun id ρ' H' fr' a' w' hs' h' => by cases h') fin 10000 h hst (fun b hb => hl E w0 w ρ hρ b (by simpa [loopsIt] using hb))
  refine Calls.mono (calls_of_goes hfn hbody hgo) ?_
  rintro e w' ⟨u, rfl, ρ', fr', H', v, h1, h2, h3, h4, h5, h6⟩
  exact ⟨u, ρ', fr', H', v, rfl, h1, h2, h3, h4, h5, h6⟩
end
end Go.Sx

noncomputable section
namespace Go.Sx
open Go

def argFr : Nat → List V → Fr
  | _, [] => []
  | i, x :: xs => (i, x) :: argFr (i + 1) xs
def plainA : A → Bool
  | .raw _ => true
  | _ => false
def rawA : A → Value
  | .raw v => v
  | _ => undef
def plainW : W → Bool
  | .at a => plainA a
  | .agg as => as.all plainA
def rawW : W → Value
  | .at a => rawA a
  | .agg as => .agg (as.map rawA).toArray
def plainV : V → Bool
  | .at a => plainA a
  | .agg as => as.all plainA
  | .tup xs => xs.all plainW
def rawV : V → Value
  | .at a => rawA a
  | .agg as => .agg (as.map rawA).toArray
  | .tup xs => .tuple (xs.map rawW).toArray

section
variable {ρ ρ' : List Pl} {H H' : Heap}
theorem plainA_eq {a : A} {u : Value} (h : plainA a = true) (hu : ARel ρ H a u) : u = rawA a := by cases a <;> first | exact hu | cases h
theorem plainAs_eq {as : List A} {vs : List Value} (h : as.all plainA = true) (hu : AsRel ρ H as vs) : vs = as.map rawA := by
  apply List.ext_getElem?
  intro i
  simp only [List.getElem?_map]
  rcases Nat.lt_or_ge i as.length with hi | hi
  · have hv : i < vs.length := by rw [hu.1]; exact hi
    rw [List.getElem?_eq_getElem hi, List.getElem?_eq_getElem hv]
    exact congrArg some (plainA_eq (List.all_eq_true.1 h _ (List.getElem_mem hi)) (hu.2 i _ _ (List.getElem?_eq_getElem hi) (List.getElem?_eq_getElem hv)))
  · rw [List.getElem?_eq_none hi, List.getElem?_eq_none (by rw [hu.1]; exact hi)]; rfl
theorem plainW_eq {x : W} {u : Value} (h : plainW x = true) (hu : WRel ρ H x u) : u = rawW x := by
  cases x with
  | «at» a => exact plainA_eq h hu
  | agg as => obtain ⟨vs, rfl, hv⟩ := hu; rw [plainAs_eq h hv]; rfl
theorem plainV_eq {x : V} {u : Value} (h : plainV x = true) (hu : VRel ρ H x u) : u = rawV x := by
  cases x with
  | «at» a => exact plainA_eq h hu
  | agg as => obtain ⟨vs, rfl, hv⟩ := hu; rw [plainAs_eq h hv]; rfl
  | tup xs =>
    obtain ⟨vs, rfl, hl, hv⟩ := hu
    simp only [rawV]
    congr 2
    apply List.ext_getElem?
    intro i
    simp only [List.getElem?_map]
    rcases Nat.lt_or_ge i xs.length with hi | hi
    · have hvl : i < vs.length := by rw [hl]; exact hi
      rw [List.getElem?_eq_getElem hi, List.getElem?_eq_getElem hvl]
      exact congrArg some (plainW_eq (List.all_eq_true.1 h _ (List.getElem_mem hi)) (hv i _ _ (List.getElem?_eq_getElem hi) (List.getElem?_eq_getElem hvl)))
    · rw [List.getElem?_eq_none hi, List.getElem?_eq_none (by rw [hl]; exact hi)]; rfl
theorem plainA_ok {a : A} (h : plainA a = true) : ARel ρ H a (rawA a) := by cases a <;> first | rfl | cases h
theorem plainAs_ok {as : List A} (h : as.all plainA = true) : AsRel ρ H as (as.map rawA) := by
  refine ⟨by simp, fun j a v ha hv => ?_⟩
  simp only [List.getElem?_map, ha, Option.map_some, Option.some.injEq] at hv
  subst hv
  exact plainA_ok (List.all_eq_true.1 h _ (List.mem_of_getElem? ha))
theorem plainW_ok {x : W} (h : plainW x = true) : WRel ρ H x (rawW x) := by
  cases x with
  | «at» a => exact plainA_ok h
  | agg as => exact ⟨_, rfl, plainAs_ok h⟩
theorem plainV_ok {x : V} (h : plainV x = true) : VRel ρ H x (rawV x) := by
  cases x with
  | «at» a => exact plainA_ok h
  | agg as => exact ⟨_, rfl, plainAs_ok h⟩
  | tup xs =>
    refine ⟨_, rfl, by simp, fun j a v ha hv => ?_⟩
    simp only [List.getElem?_map, ha, Option.map_some, Option.some.injEq] at hv
    subst hv
    exact plainW_ok (List.all_eq_true.1 h _ (List.mem_of_getElem? ha))

theorem argFr_lk : ∀ {xs : List V} {us : List Value} {i t : Nat} {v : V}, VsRel ρ H xs us → lk (argFr i xs) t = some v → i ≤ t ∧ VRel ρ H v (us.getD (t - i) undef)
  | [], us, i, t, v, h, hl => by cases hl
  | x :: xs, us, i, t, v, h, hl => by
    cases h with
    | cons h0 hs =>
      simp only [argFr, lk_cons] at hl
      split at hl
      · rename_i e; subst e; cases hl; exact ⟨Nat.le_refl _, by simpa using h0⟩
      · obtain ⟨h1, h2⟩ := argFr_lk hs hl
        refine ⟨by omega, ?_⟩
        rw [show t - i = (t - (i + 1)) + 1 by omega]
        simpa using h2
theorem VsRel.len {xs : List V} {us : List Value} (h : VsRel ρ H xs us) : us.length = xs.length := by
  induction h with
  | nil => rfl
  | cons _ _ ih => simp [ih]
theorem argFr_rel {xs : List V} {us : List Value} (h : VsRel ρ H xs us) : SRel ρ H (argFr 0 xs) (fun t => us.getD t undef) := fun t v hl => by
  have := (argFr_lk h hl).2
  simpa using this
end

/-- What a function says, told onwards. -/
abbrev Tld := {β : Type} → List Leaf → (List Leaf → Option β) → Option β
def Says (SC : Tld) (S : List Leaf → Option (List Leaf)) : Prop := ∀ {β : Type} (ls : List Leaf) (k : List Leaf → Option β) (r : β), SC ls k = some r → ∃ l, S ls = some l ∧ k l = some r
def callP {α : Type} (nargs : Nat) (Tin Tout : Tm) (SC : Tld) (H : Heap) (xs : List V) (k : V → Heap → Option α) : Option α :=
  bif Nat.beq xs.length nargs then
    look 0 Tin [] (argFr 0 xs) H fun ls => SC ls fun r => putU Tout r fun fr _ => match lk fr 0 with
      | some v => bif plainV v then k v H else none
      | none => none
  else none
def Env.addP (Γ : Env) (f : FuncId) (nargs : Nat) (Tin Tout : Tm) (SC : Tld) : Env :=
  ⟨fun p g H xs k => bif Nat.beq g f then callP nargs Tin Tout SC H xs k else Γ.call p g H xs k, Γ.ext, Γ.eqA, Γ.force, Γ.eff, Γ.mth, Γ.isC, Γ.callC⟩

section
variable {P : Program} {Γ : Env}
theorem EnvOk.addP (hΓ : EnvOk P Γ) {f : FuncId} {nargs k0 : Nat} {Tin Tout : Tm} {S : List Leaf → Option (List Leaf)} (hf : FnC P f true nargs k0 Tin Tout S) {SC : Tld} (hSC : Says SC S) : EnvOk P (Γ.addP f nargs Tin Tout SC) := by
  refine ⟨fun p g H xs k r h => ?_, hΓ.ext, hΓ.eqA, hΓ.mth, hΓ.okC⟩
  simp only [Env.addP] at h
  cases hb : Nat.beq g f with
  | false => rw [hb] at h; exact hΓ.ok p g H xs k r h
  | true =>
    rw [hb] at h
    simp only [cond_true] at h
    have e := Nat.eq_of_beq_eq_true hb
    subst e
    refine ⟨hf.fn, ?_⟩
    unfold callP at h
    cases hn : Nat.beq xs.length nargs with
    | false => rw [hn] at h; cases h
    | true =>
      rw [hn] at h
      simp only [cond_true] at h
      obtain ⟨ls, h, hlook⟩ := look_par h
      obtain ⟨r1, hS, h⟩ := hSC _ _ _ h
      obtain ⟨fr, H1, hi, h⟩ := putU_some h
      split at h
      · rename_i v hv
        cases hp : plainV v with
        | false => rw [hp] at h; cases h
        | true =>
          rw [hp] at h
          refine ⟨v, H, h, .inl ⟨rfl, ?_⟩⟩
          intro E w0 w ρ us hr hus
          refine ⟨rawV v, plainV_ok hp, fun j => ?_⟩
          obtain ⟨ls2, fr2, H2, ρ2, e2, hi2, hr2, hs2, _, _⟩ := look_ok (E := E) (w0 := w0) (w := w.drewN j) hlook (hr.drewN j) (argFr_rel hus)
          cases e2
          refine Calls.mono (hf.run ls r1 fr2 H2 E w0 (w.drewN j) ρ2 us hS hi2 hr2 (by rw [hus.len]; exact Nat.eq_of_beq_eq_true hn) hs2) ?_
          rintro e w' ⟨u, ρ', fr', H', v', rfl, _, hi', _, hv', hu, hk⟩
          rw [hi] at hi'; cases hi'
          rw [hv] at hv'; cases hv'
          obtain ⟨m, hm⟩ := hk rfl
          exact ⟨by rw [plainV_eq hp hu], j + m, by rw [hm, World.drewN_drewN]⟩
      · cases h
end
end Go.Sx

noncomputable section
namespace Go.Sx
open Go

def TO.mut : TO → Bool
  | .cells .. | .row .. | .map .. => true
  | _ => false
def TO.isRo : TO → Bool
  | .ro .. => true
  | _ => false
def isLocal : List VOp → Bool
  | [] => true
  | .ro _ :: r => isLocal r
  | .view _ :: r => isLocal r
  | _ :: _ => false
/-- The callee's number j is the caller's number .. -/
def backOf (keep : List Nat) (objs : List TO) (hout : Heap) (n1 : Nat) (j : Nat) : Option Nat :=
  match objs[j]?, keep[j]? with
  | some t, some id =>
    bif Nat.ble (id + 1) n1 then
      bif t.mut then some id else (match hout[j]? with | some .dead => none | some _ => some id | none => none)
    else none
  | none, _ => some (n1 + (j - objs.length))
  | _, _ => none
def mergeO (m : Nat → Option Nat) (keep : List Nat) (objs : List TO) (hout : Heap) (i : Nat) (o : AObj) : AObj :=
  match idx keep i with
  | some j => match objs[j]?, hout[j]? with | some t, some o' => bif t.mut then rnO m o' else o | _, _ => o
  | none => o
def mergeH (m : Nat → Option Nat) (keep : List Nat) (objs : List TO) (hout : Heap) (H : Heap) : Heap :=
  mapI (mergeO m keep objs hout) 0 H ++ (hout.drop objs.length).map (rnO m)

/-- What is written lies among the caller's own objects. -/
def mutKept (n1 : Nat) : List Nat → List TO → Bool
  | k :: ks, t :: ts => (bif t.mut then Nat.ble (k + 1) n1 else true) && mutKept n1 ks ts
  | [], [] => true
  | _, _ => false
def callE {α : Type} (nargs : Nat) (Tin Tout : Tm) (SC : Tld) (H : Heap) (xs : List V) (k : V → Heap → Option α) : Option α :=
  bif Nat.beq xs.length nargs && (Tout.objs.drop Tin.objs.length).all (fun t => !t.isRo) then
    match planOf 0 Tin [] (argFr 0 xs) H with
    | (ops, ops2, keep) => vops ops (argFr 0 xs) H fun fr1 H1 => vops ops2 fr1 H1 fun fr2 H2 =>
      bif isLocal ops2 && noDup keep && mutKept H1.length keep Tin.objs then
        match restrict keep H2 with
        | some h0 => seen Tin (rnFr (idx keep) fr2) h0 fun ls => SC ls fun r => putU Tout r fun fro hout => match lk fro 0 with
          | some v => k (rnV (backOf keep Tin.objs hout H1.length) v) (mergeH (backOf keep Tin.objs hout H1.length) keep Tin.objs hout H1)
          | none => none
        | none => none
      else none
  else none

section
variable {P : Program} {Γ : Env} {E : Nat → Prop} {w0 w : World} {ρ : List Pl} {H H' : Heap} {fr fr' : Fr} {g : Nat → Value}

/-- What is lent alone stays as mutable as it was. -/
theorem setLoc_loc {l : Loc} {a : A} (h : setLoc fr H l a = some (fr', H')) : H'.length = H.length ∧ ∀ (i : Nat) (o : AObj), H'[i]? = some o → ∃ o1, H[i]? = some o1 ∧ o.mut = o1.mut ∧ o.isDead = o1.isDead := by
  cases l with
  | slot s =>
    simp only [setLoc] at h
    split at h
    · cases h; exact ⟨rfl, fun i o ho => ⟨o, ho, rfl, rfl⟩⟩
    · cases h
  | cell id j =>
    simp only [setLoc] at h
    split at h
    · rename_i t cs hid
      cases h
      refine ⟨by simp, fun i o ho => ?_⟩
      rw [List.getElem?_set] at ho
      split at ho
      · rename_i e; subst e
        split at ho
        · cases ho; exact ⟨_, hid, rfl, rfl⟩
        · cases ho
      · exact ⟨o, ho, rfl, rfl⟩
    · cases h
  | part s j =>
    simp only [setLoc] at h
    split at h
    · cases h; exact ⟨rfl, fun i o ho => ⟨o, ho, rfl, rfl⟩⟩
    · cases h
/-- Every object below n is no more than it was. -/
def Less (H H' : Heap) : Prop := H.length ≤ H'.length ∧ ∀ (i : Nat) (o : AObj), i < H.length → H'[i]? = some o → ∃ o1, H[i]? = some o1 ∧ (o.mut = true → o1.mut = true) ∧ (o.isDead = false → o1.isDead = false)
theorem Less.refl (H : Heap) : Less H H := ⟨Nat.le_refl _, fun _ o _ h => ⟨o, h, fun h => h, fun h => h⟩⟩
theorem Less.trans {H H1 H2 : Heap} (h : Less H H1) (k : Less H1 H2) : Less H H2 :=
  ⟨Nat.le_trans h.1 k.1, fun i o hi ho => by
    obtain ⟨o1, h1, a1, b1⟩ := k.2 i o (Nat.lt_of_lt_of_le hi h.1) ho
    obtain ⟨o2, h2, a2, b2⟩ := h.2 i o1 hi h1
    exact ⟨o2, h2, fun x => a2 (a1 x), fun x => b2 (b1 x)⟩⟩
theorem vop_less {v : VOp} {c : Bool} (hv : isLocal [v] = true) (h : vop v fr H = some (fr', H', c)) : Less H H' := by
  cases v with
  | virt => cases hv
  | cut => cases hv
  | move => cases hv
  | ro id =>
    simp only [vop, doRo] at h
    split at h
    · rename_i H2 h2
      cases h
      split at h2
      · rename_i e sz n cols hid
        cases h2
        refine ⟨by simp, fun i o hi ho => ?_⟩
        rw [List.getElem?_set] at ho
        split at ho
        · rename_i e; subst e
          split at ho
          · cases ho; exact ⟨_, hid, fun h => (by cases h), fun _ => rfl⟩
          · rename_i hn; first | exact absurd hi hn | cases ho
        · exact ⟨o, ho, fun h => h, fun h => h⟩
      · cases h2
    · cases h
  | view l =>
    simp only [vop, doView] at h
    split at h
    · rename_i id sz off len hl
      split at h
      · rename_i e sz' n cols hid
        split at h
        · rename_i cols' hcols
          cases hb : Nat.beq sz sz' with
          | false => rw [hb] at h; cases h
          | true =>
            rw [hb] at h
            simp only [cond_true] at h
            split at h
            · rename_i fr2 H2 h2
              cases h
              obtain ⟨h3, h4⟩ := setLoc_loc h2
              refine ⟨by rw [h3]; simp, fun i o hi ho => ?_⟩
              obtain ⟨o1, h5, h6, h7⟩ := h4 i o ho
              rw [List.getElem?_append_left hi] at h5
              exact ⟨o1, h5, fun h => by rw [← h6]; exact h, fun h => by rw [← h7]; exact h⟩
            · cases h
        · cases h
      · cases h
    · cases h
theorem vops_less {α : Type} {k : Fr → Heap → Option α} {r : α} : ∀ (l : List VOp) {ρ : List Pl} {fr : Fr} {H : Heap}, isLocal l = true → HRel E w0 ρ H w → SRel ρ H fr g → vops l fr H k = some r →
    ∃ fr' H', k fr' H' = some r ∧ VOk E w0 w ρ H fr g fr' H' ∧ Less H H'
  | [], ρ, fr, H, _, hr, hs, h => ⟨fr, H, h, ⟨⟨ρ, Ext.refl _ _, hr, hs⟩, fun t v ht => ⟨v, ht⟩⟩, Less.refl H⟩
  | v :: l, ρ, fr, H, hl, hr, hs, h => by
    simp only [vops] at h
    split at h
    · rename_i fr1 H1 c hv
      obtain ⟨hc, h⟩ := chk_some.1 h
      have hl1 : isLocal [v] = true := by cases v <;> first | rfl | (simp [isLocal] at hl)
      have hl2 : isLocal l = true := by cases v <;> simpa [isLocal] using hl
      have hless := vop_less hl1 hv
      have hok := vop_ok hr hs hv hc
      obtain ⟨⟨ρ', a, b, cc⟩, d⟩ := hok
      obtain ⟨fr2, H2, hk, hok2, hless2⟩ := vops_less l hl2 b cc h
      obtain ⟨⟨ρ2, a2, b2, c2⟩, d2⟩ := hok2
      exact ⟨fr2, H2, hk, ⟨⟨ρ2, a.trans a2, b2, c2⟩, fun t v ht => by obtain ⟨v1, h1⟩ := d2 t v ht; exact d t v1 h1⟩, hless.trans hless2⟩
    · cases h

theorem iObjs_kind {rl : Nat → Int} : ∀ {ts : List TO} {rows : List (List Col)} {l r : List Leaf} {H : Heap}, iObjs rl ts rows l = some (H, r) → H.length = ts.length ∧ ∀ (i : Nat) (o : AObj), H[i]? = some o → ∃ t, ts[i]? = some t ∧ o.mut = t.mut ∧ (o.mut = false → o.isDead = false → t.isRo = true)
  | [], [], l, r, H, h => by simp only [iObjs, Option.some.injEq, Prod.mk.injEq] at h; rw [← h.1]; exact ⟨rfl, fun i o ho => by simp at ho⟩
  | t :: ts, c :: cs, l, r, H, h => by
    simp only [iObjs] at h
    split at h
    · rename_i o r1 h1
      split at h
      · rename_i os r2 h2
        cases h
        obtain ⟨a, b⟩ := iObjs_kind h2
        refine ⟨by simp [a], fun i x hx => ?_⟩
        match i with
        | 0 =>
          simp at hx; subst hx
          refine ⟨t, rfl, ?_⟩
          cases t <;> simp only [iO] at h1
          · cases h1; exact ⟨rfl, fun _ h => by cases h⟩
          · split at h1
            · cases h1; exact ⟨rfl, fun h => by cases h⟩
            · cases h1
          · cases h1; exact ⟨rfl, fun h => by cases h⟩
          · cases h1; exact ⟨rfl, fun _ _ => rfl⟩
          · split at h1
            · cases h1; exact ⟨rfl, fun h => by cases h⟩
            · cases h1
        | i + 1 => simp at hx; simpa using b i x hx
      · cases h
    · cases h
  | [], _ :: _, _, _, _, h => by simp [iObjs] at h
  | _ :: _, [], _, _, _, h => by simp [iObjs] at h
theorem inst_kind {T : Tm} {ls : List Leaf} (h : inst T ls = some (fr, H)) : H.length = T.objs.length ∧ ∀ (i : Nat) (o : AObj), H[i]? = some o → ∃ t, T.objs[i]? = some t ∧ o.mut = t.mut ∧ (o.mut = false → o.isDead = false → t.isRo = true) := by
  unfold inst at h
  split at h
  · split at h
    · rename_i h2
      split at h
      · cases h; exact iObjs_kind h2
      · cases h
    · cases h
  · cases h

/-- Where the callee writes. -/
def EcOf (objs : List TO) (ρ3 : List Pl) (k : Nat) : Prop := ∃ (j : Nat) (p : Pl) (t : TO), ρ3[j]? = some p ∧ objs[j]? = some t ∧ t.mut = true ∧ p.real = true ∧ p.blk = k

structure Lent (keep : List Nat) (objs : List TO) (ρ1 : List Pl) (H1 : Heap) (ρ3 ρ4 : List Pl) (hout : Heap) : Prop where
  dup : noDup keep = true
  len3 : ρ3.length = objs.length
  place : ∀ (j id : Nat) (p : Pl), keep[j]? = some id → ρ1[id]? = some p → ρ3[j]? = some p
  mt : ∀ (j : Nat) (t : TO), objs[j]? = some t → t.mut = true → ∃ id, keep[j]? = some id ∧ ∃ o1, H1[id]? = some o1 ∧ o1.mut = true
  pre : ∀ (i : Nat) (p : Pl), ρ3[i]? = some p → ρ4[i]? = some p
  new : ∀ (j : Nat) (o : AObj), hout[j]? = some o → objs.length ≤ j → o.mut = false → o.isDead = true

theorem idx_some : ∀ {keep : List Nat} {j i : Nat}, noDup keep = true → keep[j]? = some i → idx keep i = some j := by
  intro keep j i hd hj
  cases h : idx keep i with
  | none => exact absurd h (idx_mem hj)
  | some j' => rw [noDup_ne hd (idx_get h) hj]

theorem merge_cls {keep : List Nat} {objs : List TO} {ρ1 ρ3 ρ4 : List Pl} {H1 hout : Heap} {m : Nat → Option Nat} (L : Lent keep objs ρ1 H1 ρ3 ρ4 hout) (hl : objs.length ≤ hout.length) {i : Nat} {o : AObj} (h : (mergeH m keep objs hout H1)[i]? = some o) :
    (i < H1.length ∧ H1[i]? = some o ∧ ∀ (j : Nat) (t : TO), objs[j]? = some t → t.mut = true → keep[j]? ≠ some i) ∨
    ∃ (j : Nat) (o' : AObj), hout[j]? = some o' ∧ o = rnO m o' ∧ ((j < objs.length ∧ keep[j]? = some i ∧ i < H1.length ∧ ∃ t, objs[j]? = some t ∧ t.mut = true) ∨ (objs.length ≤ j ∧ i = H1.length + (j - objs.length))) := by
  unfold mergeH at h
  rcases Nat.lt_or_ge i H1.length with hi | hi
  · rw [List.getElem?_append_left (by rw [mapI_len]; exact hi), mapI_get, List.getElem?_eq_getElem hi] at h
    simp only [Nat.zero_add, Option.map_some, Option.some.injEq] at h
    unfold mergeO at h
    split at h
    · rename_i j hj
      have hkj := idx_get hj
      split at h
      · rename_i t o' ht ho'
        cases hm : t.mut with
        | true =>
          rw [hm] at h
          exact .inr ⟨j, o', ho', h.symm, .inl ⟨(List.getElem?_eq_some_iff.1 ht).1, hkj, hi, t, ht, hm⟩⟩
        | false =>
          rw [hm] at h
          refine .inl ⟨hi, by rw [List.getElem?_eq_getElem hi]; exact congrArg some h, fun j' t' ht' hm' hk' => ?_⟩
          have := noDup_ne L.dup hkj hk'
          subst this
          rw [ht] at ht'; cases ht'; rw [hm] at hm'; cases hm'
      · rename_i hno
        refine .inl ⟨hi, by rw [List.getElem?_eq_getElem hi]; exact congrArg some h, fun j' t' ht' hm' hk' => ?_⟩
        have := noDup_ne L.dup hkj hk'
        subst this
        have hjl := (List.getElem?_eq_some_iff.1 ht').1
        exact hno t' _ ht' (List.getElem?_eq_getElem (by omega))
    · rename_i hn
      refine .inl ⟨hi, by rw [List.getElem?_eq_getElem hi]; exact congrArg some h, fun j' t' ht' hm' hk' => ?_⟩
      exact absurd hn (idx_mem hk')
  · rw [List.getElem?_append_right (by rw [mapI_len]; exact hi), mapI_len, List.getElem?_map, List.getElem?_drop] at h
    simp only [Option.map_eq_some_iff] at h
    obtain ⟨o', ho', rfl⟩ := h
    exact .inr ⟨_, o', ho', rfl, .inr ⟨by omega, by omega⟩⟩

theorem merge_ok {keep : List Nat} {objs : List TO} {ρ1 ρ3 ρ4 : List Pl} {H1 hout : Heap} {w' : World} (hr1 : HRel E w0 ρ1 H1 w) (L : Lent keep objs ρ1 H1 ρ3 ρ4 hout) (h4 : HRel (EcOf objs ρ3) w ρ4 hout w') :
    HRel E w0 (ρ1 ++ ρ4.drop objs.length) (mergeH (backOf keep objs hout H1.length) keep objs hout H1) w' ∧
    Ext ρ1 H1 (ρ1 ++ ρ4.drop objs.length) (mergeH (backOf keep objs hout H1.length) keep objs hout H1) ∧
    Mp (backOf keep objs hout H1.length) ρ4 hout (ρ1 ++ ρ4.drop objs.length) (mergeH (backOf keep objs hout H1.length) keep objs hout H1) := by
  have hl4 : objs.length ≤ ρ4.length := by
    rcases Nat.eq_zero_or_pos objs.length with h0 | h0
    · omega
    · have := L.pre (objs.length - 1) _ (List.getElem?_eq_getElem (by rw [L.len3]; omega))
      have := (List.getElem?_eq_some_iff.1 this).1
      omega
  have hlo : objs.length ≤ hout.length := by rw [← h4.len]; exact hl4
  have hl1 := hr1.len
  have cls := fun {i : Nat} {o : AObj} => merge_cls (m := backOf keep objs hout H1.length) (i := i) (o := o) L hlo
  have hmlen : (mergeH (backOf keep objs hout H1.length) keep objs hout H1).length = H1.length + (hout.length - objs.length) := by simp [mergeH, mapI_len]
  generalize hH3 : mergeH (backOf keep objs hout H1.length) keep objs hout H1 = H3 at cls hmlen ⊢
  -- places
  have pU : ∀ {i : Nat}, i < H1.length → (ρ1 ++ ρ4.drop objs.length)[i]? = ρ1[i]? := fun hi => List.getElem?_append_left (by omega)
  have pN : ∀ {j : Nat}, objs.length ≤ j → (ρ1 ++ ρ4.drop objs.length)[H1.length + (j - objs.length)]? = ρ4[j]? := by
    intro j hj
    rw [List.getElem?_append_right (by omega), List.getElem?_drop]
    congr 1; omega
  have hx : Ext ρ1 H1 (ρ1 ++ ρ4.drop objs.length) H3 := by
    refine ⟨fun i p hp => by rw [pU (by have := (List.getElem?_eq_some_iff.1 hp).1; omega)]; exact hp, fun i hg => ?_⟩
    unfold Gone at hg ⊢
    have hi : i < H3.length := by rw [hmlen]; have := (List.getElem?_eq_some_iff.1 hg).1; omega
    rcases cls (List.getElem?_eq_getElem hi) with ⟨_, hU, _⟩ | ⟨j, o', ho', _, ⟨hj, hkj, hi1, t, ht, hm⟩ | ⟨hj, hi1⟩⟩
    · rw [hg] at hU; rw [List.getElem?_eq_getElem hi]; exact hU.symm
    · obtain ⟨id, hid, o1, ho1, hm1⟩ := L.mt j t ht hm
      rw [hkj] at hid; cases hid
      rw [hg] at ho1; cases ho1; cases hm1
    · have := (List.getElem?_eq_some_iff.1 hg).1; omega
  have hmp : Mp (backOf keep objs hout H1.length) ρ4 hout (ρ1 ++ ρ4.drop objs.length) H3 := by
    have key : ∀ {j i : Nat}, backOf keep objs hout H1.length j = some i → (∃ t, objs[j]? = some t ∧ keep[j]? = some i ∧ i < H1.length ∧ (t.mut = true ∨ hout[j]? ≠ some .dead)) ∨ (objs.length ≤ j ∧ i = H1.length + (j - objs.length)) := by
      intro j i h
      unfold backOf at h
      split at h
      · rename_i t id ht hid
        cases hb : Nat.ble (id + 1) H1.length with
        | false => rw [hb] at h; cases h
        | true =>
          rw [hb] at h
          simp only [cond_true] at h
          have hlt := Nat.le_of_ble_eq_true hb
          cases hm : t.mut with
          | true => rw [hm] at h; cases h; exact .inl ⟨t, ht, hid, hlt, .inl hm⟩
          | false =>
            rw [hm] at h
            simp only [cond_false] at h
            split at h
            · cases h
            · rename_i o hne ho; cases h; refine .inl ⟨t, ht, hid, hlt, .inr fun h => ?_⟩; rw [ho] at h; cases h; exact hne rfl
            · cases h
      · rename_i hn; cases h; exact .inr ⟨by rw [List.getElem?_eq_none_iff] at hn; exact hn, rfl⟩
      · cases h
    refine ⟨fun {j i p} hj hp => ?_, fun {j i} hj hg => ?_⟩
    · rcases key hj with ⟨t, ht, hkj, hi, _⟩ | ⟨hjl, rfl⟩
      · rw [pU hi]
        have h1 : ρ1[i]? = some ρ1[i] := List.getElem?_eq_getElem (by omega)
        have := L.pre _ _ (L.place j i _ hkj h1)
        rw [hp] at this; cases this
        exact h1
      · rw [pN hjl]; exact hp
    · unfold Gone at hg ⊢
      rcases key hj with ⟨t, ht, hkj, hi, hm⟩ | ⟨hjl, rfl⟩
      · rcases hm with hm | hm
        · have hi3 : i < H3.length := by omega
          rcases cls (List.getElem?_eq_getElem hi3) with ⟨_, _, hU⟩ | ⟨j', o', ho', he, ⟨hj', hkj', _⟩ | ⟨hj', hi'⟩⟩
          · exact absurd hkj (hU j t ht hm)
          · have := noDup_ne L.dup hkj hkj'
            subst this
            rw [hg] at ho'; cases ho'
            rw [List.getElem?_eq_getElem hi3, he]; rfl
          · omega
        · exact absurd hg hm
      · have hjo := (List.getElem?_eq_some_iff.1 hg).1
        have hi3 : H1.length + (j - objs.length) < H3.length := by omega
        rcases cls (List.getElem?_eq_getElem hi3) with ⟨h, _, _⟩ | ⟨j', o', ho', he, ⟨_, _, h, _⟩ | ⟨hj', hi'⟩⟩
        · omega
        · omega
        · have : j = j' := by omega
          subst this
          rw [hg] at ho'; cases ho'
          rw [List.getElem?_eq_getElem hi3, he]; rfl
  -- the callee's places among the caller's
  have pC : ∀ {i j : Nat} {p : Pl}, ((j < objs.length ∧ keep[j]? = some i ∧ i < H1.length ∧ ∃ t, objs[j]? = some t ∧ t.mut = true) ∨ (objs.length ≤ j ∧ i = H1.length + (j - objs.length))) → (ρ1 ++ ρ4.drop objs.length)[i]? = some p → ρ4[j]? = some p := by
    rintro i j p (⟨_, hkj, hi, _⟩ | ⟨hj, rfl⟩) hp
    · rw [pU hi] at hp; exact L.pre _ _ (L.place j i p hkj hp)
    · rw [pN hj] at hp; exact hp
  -- the callee's blocks are those of the caller's objects that were lent
  have ec : ∀ {k : Nat}, EcOf objs ρ3 k → ∃ (i : Nat) (p : Pl) (o1 : AObj), ρ1[i]? = some p ∧ H1[i]? = some o1 ∧ o1.mut = true ∧ p.real = true ∧ p.blk = k ∧ ∃ (j : Nat) (t : TO), objs[j]? = some t ∧ t.mut = true ∧ keep[j]? = some i := by
    rintro k ⟨j, p, t, hp, ht, hm, hrl, hb⟩
    obtain ⟨id, hid, o1, ho1, hm1⟩ := L.mt j t ht hm
    have hlt : id < ρ1.length := by rw [hl1]; exact (List.getElem?_eq_some_iff.1 ho1).1
    have h1 : ρ1[id]? = some ρ1[id] := List.getElem?_eq_getElem hlt
    have := L.place j id _ hid h1
    rw [hp] at this; cases this
    exact ⟨id, _, o1, h1, ho1, hm1, hrl, hb, j, t, ht, hm, hid⟩
  have ecU : ∀ {i : Nat} {p : Pl} {o : AObj}, ρ1[i]? = some p → H1[i]? = some o → o.isDead = false → p.real = true → (∀ (j : Nat) (t : TO), objs[j]? = some t → t.mut = true → keep[j]? ≠ some i) → ¬ EcOf objs ρ3 p.blk := by
    intro i p o hp ho hd hrl hU hE
    obtain ⟨i', p', o1, hp', ho1, hm1, hrl', hb, j, t, ht, hm, hkj⟩ := ec hE
    exact hr1.inj i' i p' p o1 o hp' hp ho1 ho hm1 hd hrl' hrl (fun e => hU j t ht hm (e ▸ hkj)) hb
  -- U against C
  have uc : ∀ {i i' j : Nat} {p q : Pl} {o o' : AObj}, ρ1[i]? = some p → H1[i]? = some o → o.isDead = false → p.real = true → (∀ (j : Nat) (t : TO), objs[j]? = some t → t.mut = true → keep[j]? ≠ some i) →
      hout[j]? = some o' → o'.isDead = false → ((j < objs.length ∧ keep[j]? = some i' ∧ i' < H1.length ∧ ∃ t, objs[j]? = some t ∧ t.mut = true) ∨ (objs.length ≤ j ∧ i' = H1.length + (j - objs.length))) → ρ4[j]? = some q → q.real = true → p.blk ≠ q.blk := by
    intro i i' j p q o o' hp ho hd hrl hU ho' hd' hC hq hqr hb
    rcases hC with ⟨hj, hkj, hi', t, ht, hm⟩ | ⟨hj, _⟩
    · refine ecU hp ho hd hrl hU ⟨j, q, t, ?_, ht, hm, hqr, hb.symm⟩
      have hj3 : j < ρ3.length := by rw [L.len3]; exact hj
      have h3 : ρ3[j]? = some ρ3[j] := List.getElem?_eq_getElem hj3
      have := L.pre _ _ h3
      rw [hq] at this; cases this; exact h3
    · have hm : o'.mut = true := by
        cases hm : o'.mut with
        | true => rfl
        | false => rw [L.new j o' ho' hj hm] at hd'; cases hd'
      rcases h4.own j q o' hq ho' hm hqr with h | h
      · exact ecU hp ho hd hrl hU (hb ▸ h)
      · have := real_lt hrl hd (hr1.obj i p o hp ho); omega
  have nd : ∀ {o : AObj}, o.mut = true → o.isDead = false := fun {o} h => by cases o <;> first | rfl | cases h
  refine ⟨⟨by simp [hmlen, hl1, h4.len], ?_, ?_, ?_, ?_⟩, hx, hmp⟩
  · intro i p o hp ho
    rcases cls ho with ⟨hi, hU, hno⟩ | ⟨j, o', ho', rfl, hC⟩
    · rw [pU hi] at hp
      have hob := hr1.obj i p o hp hU
      cases hrl : p.real with
      | false => exact hob.virt hx hrl
      | true =>
        cases hd : o.isDead with
        | true => cases o <;> first | (cases hd; done) | trivial
        | false => exact hob.ext hx (h4.kept.block _ (real_lt hrl hd hob) (ecU hp hU hd hrl hno))
    · exact rnO_ok hmp (h4.obj j p o' (pC hC hp) ho')
  · intro i i' p q o o2 hp hq ho ho2 hm hd hpr hqr hij
    rcases cls ho with ⟨hi, hU, hno⟩ | ⟨j, o', ho', rfl, hC⟩ <;> rcases cls ho2 with ⟨hi', hU', hno'⟩ | ⟨j', o2', ho2', rfl, hC'⟩
    · rw [pU hi] at hp; rw [pU hi'] at hq
      exact hr1.inj i i' p q o o2 hp hq hU hU' hm hd hpr hqr hij
    · rw [pU hi] at hp
      rw [(rnO_mut _).2] at hd
      exact uc hp hU (nd hm) hpr hno ho2' hd hC' (pC hC' hq) hqr
    · rw [pU hi'] at hq
      rw [(rnO_mut _).1] at hm
      exact (uc hq hU' hd hqr hno' ho' (nd hm) hC (pC hC hp) hpr).symm
    · rw [(rnO_mut _).1] at hm
      rw [(rnO_mut _).2] at hd
      refine h4.inj j j' p q o' o2' (pC hC hp) (pC hC' hq) ho' ho2' hm hd hpr hqr fun e => hij ?_
      subst e
      rcases hC with ⟨_, hkj, _⟩ | ⟨hj, rfl⟩ <;> rcases hC' with ⟨hj', hkj', _⟩ | ⟨hj', rfl⟩
      · rw [hkj] at hkj'; cases hkj'; rfl
      · omega
      · omega
      · rfl
  · intro i p o hp ho hm hrl
    have viaEc : ∀ {k : Nat}, EcOf objs ρ3 k → E k ∨ w0.heap.size ≤ k := by
      intro k hE
      obtain ⟨i', p', o1, hp', ho1, hm1, hrl', hb, _⟩ := ec hE
      rw [← hb]; exact hr1.own i' p' o1 hp' ho1 hm1 hrl'
    rcases cls ho with ⟨hi, hU, hno⟩ | ⟨j, o', ho', rfl, hC⟩
    · rw [pU hi] at hp; exact hr1.own i p o hp hU hm hrl
    · rw [(rnO_mut _).1] at hm
      rcases h4.own j p o' (pC hC hp) ho' hm hrl with h | h
      · exact viaEc h
      · right; have := hr1.kept.size; omega
  · refine ⟨h4.kept.os.trans hr1.kept.os, h4.kept.tape.trans hr1.kept.tape, h4.kept.output.trans hr1.kept.output, Nat.le_trans hr1.kept.size h4.kept.size, fun k hk he => ?_⟩
    rw [h4.kept.block k (Nat.lt_of_lt_of_le hk hr1.kept.size) fun hE => ?_]
    · exact hr1.kept.block k hk he
    · obtain ⟨i', p', o1, hp', ho1, hm1, hrl', hb, _⟩ := ec hE
      rcases hr1.own i' p' o1 hp' ho1 hm1 hrl' with h | h
      · exact he (hb ▸ h)
      · omega

theorem mutKept_ok {n1 : Nat} : ∀ {ks : List Nat} {ts : List TO}, mutKept n1 ks ts = true → ks.length = ts.length ∧ ∀ (j : Nat) (t : TO), ts[j]? = some t → t.mut = true → ∃ id, ks[j]? = some id ∧ id < n1
  | [], [], _ => ⟨rfl, fun j t h => by simp at h⟩
  | k :: ks, t :: ts, h => by
    simp only [mutKept, Bool.and_eq_true] at h
    obtain ⟨a, b⟩ := mutKept_ok h.2
    refine ⟨by simp [a], fun j x hx hm => ?_⟩
    match j with
    | 0 =>
      simp at hx; subst hx
      have := h.1
      rw [hm] at this
      exact ⟨k, rfl, Nat.le_of_ble_eq_true this⟩
    | j + 1 => simp at hx; simpa using b j x hx hm
  | [], _ :: _, h => by simp [mutKept] at h
  | _ :: _, [], h => by simp [mutKept] at h

def Env.addE (Γ : Env) (f : FuncId) (nargs : Nat) (Tin Tout : Tm) (SC : Tld) : Env :=
  ⟨fun p g H xs k => bif Nat.beq g f then (bif p then Option.none else callE nargs Tin Tout SC H xs k) else Γ.call p g H xs k, Γ.ext, Γ.eqA, Γ.force, fun g => bif Nat.beq g f then true else Γ.eff g, Γ.mth, Γ.isC, Γ.callC⟩

theorem EnvOk.addE (hΓ : EnvOk P Γ) {f : FuncId} {nargs k0 : Nat} {Tin Tout : Tm} {S : List Leaf → Option (List Leaf)} {pure : Bool} (hf : FnC P f pure nargs k0 Tin Tout S) {SC : Tld} (hSC : Says SC S) : EnvOk P (Γ.addE f nargs Tin Tout SC) := by
  refine ⟨fun p g H xs k r h => ?_, hΓ.ext, hΓ.eqA, hΓ.mth, hΓ.okC⟩
  simp only [Env.addE] at h
  cases hb : Nat.beq g f with
  | false => rw [hb] at h; exact hΓ.ok p g H xs k r h
  | true =>
    rw [hb] at h
    simp only [cond_true] at h
    have e := Nat.eq_of_beq_eq_true hb
    subst e
    refine ⟨hf.fn, ?_⟩
    cases p with
    | true => cases h
    | false =>
    simp only [cond_false] at h
    unfold callE at h
    cases hn : (Nat.beq xs.length nargs && (Tout.objs.drop Tin.objs.length).all (fun t => !t.isRo)) with
    | false => rw [hn] at h; cases h
    | true =>
    rw [hn] at h
    simp only [cond_true] at h
    rw [Bool.and_eq_true] at hn
    generalize planOf 0 Tin [] (argFr 0 xs) H = pl at h
    obtain ⟨ops, ops2, keep⟩ := pl
    simp only at h
    obtain ⟨fr1, H1, h, par1⟩ := vops_par ops h
    obtain ⟨fr2, H2, h, par2⟩ := vops_par ops2 h
    cases hc : (isLocal ops2 && noDup keep && mutKept H1.length keep Tin.objs) with
    | false => rw [hc] at h; cases h
    | true =>
    rw [hc] at h
    simp only [cond_true] at h
    simp only [Bool.and_eq_true] at hc
    obtain ⟨⟨hloc, hdup⟩, hmk⟩ := hc
    split at h
    case h_2 => cases h
    rename_i h0 hres
    obtain ⟨ls, h, par3⟩ := seen_par h
    obtain ⟨r1, hS, h⟩ := hSC _ _ _ h
    obtain ⟨fro, hout, hi, h⟩ := putU_some h
    split at h
    case h_2 => cases h
    rename_i v hv
    refine ⟨_, _, h, .inr ⟨rfl, ?_⟩⟩
    intro E w0 w ρ us hr hus
    obtain ⟨fr1', H1', e1, ⟨ρ1, x1, hr1, hs1⟩, _⟩ := vops_ok (k := fun a b => some (a, b)) ops hr (argFr_rel hus) (par1 _)
    simp only [Option.some.injEq, Prod.mk.injEq] at e1
    obtain ⟨rfl, rfl⟩ := e1
    obtain ⟨fr2', H2', e2, ⟨⟨ρ2, x2, hr2, hs2⟩, _⟩, hless⟩ := vops_less (k := fun a b => some (a, b)) ops2 hloc hr1 hs1 (par2 _)
    simp only [Option.some.injEq, Prod.mk.injEq] at e2
    obtain ⟨rfl, rfl⟩ := e2
    have hR := Rn.of hres hr2.len
    have hr3 := restrict_rel hres hdup hr2
    have hs3 : SRel (rnP ρ2 keep) h0 (rnFr (idx keep) fr2') (fun t => us.getD t undef) := by
      intro t x hl
      rw [lk_rnFr] at hl
      simp only [Option.map_eq_some_iff] at hl
      obtain ⟨x0, hx0, rfl⟩ := hl
      exact rnV_ok hR.mp (hs2 t x0 hx0)
    obtain ⟨ls', fr', H', e3, hi3, hr4, hs4, _, hlen4, hle4⟩ := seen_ok (k := some) (par3 _) hr3 hs3
    cases e3
    obtain ⟨hkl, hmk⟩ := mutKept_ok hmk
    have hkind := inst_kind hi3
    have hrc : HRel (EcOf Tin.objs (rnP ρ2 keep)) w (rnP ρ2 keep) H' w := by
      refine ⟨hr4.len, hr4.obj, hr4.inj, fun i p o hp ho hm hrl => .inl ?_, Kept.refl _ _⟩
      obtain ⟨t, ht, hmt, _⟩ := hkind.2 i o ho
      exact ⟨i, p, t, hp, ht, by rw [← hmt]; exact hm, hrl, rfl⟩
    refine Calls.mono (hf.run ls r1 fr' H' _ w w (rnP ρ2 keep) us hS hi3 hrc (by rw [hus.len]; exact Nat.eq_of_beq_eq_true hn.1) hs4) ?_
    rintro e w' ⟨u, ρ4, fro', hout', v', rfl, hpre, hi', hr5, hv', hu, _⟩
    rw [hi] at hi'; cases hi'
    rw [hv] at hv'; cases hv'
    have hL : Lent keep Tin.objs ρ1 H1' (rnP ρ2 keep) ρ4 hout := by
      refine ⟨hdup, by rw [hr4.len, hkind.1], fun j id p hj hp => hR.place hj (x2.pl _ _ hp), fun j t ht hm => ?_, hpre, fun j o ho hj hm => ?_⟩
      · obtain ⟨id, hid, hlt⟩ := hmk j t ht hm
        have hj' : j < H'.length := by rw [hkind.1]; exact (List.getElem?_eq_some_iff.1 ht).1
        obtain ⟨t', ht', hmt, _⟩ := hkind.2 j _ (List.getElem?_eq_getElem hj')
        rw [ht] at ht'; cases ht'
        obtain ⟨o0, ho0, hm0, _⟩ := hle4 j _ (List.getElem?_eq_getElem hj')
        obtain ⟨o2, ho2, ho2'⟩ := hR.get j id hid
        rw [ho0] at ho2'; cases ho2'
        have hm2 := hm0 (by rw [hmt]; exact hm)
        rw [(rnO_mut _).1] at hm2
        obtain ⟨o1, ho1, hm1, _⟩ := hless.2 id o2 hlt ho2
        exact ⟨id, hid, o1, ho1, hm1 hm2⟩
      · obtain ⟨t, ht, _, hro⟩ := (inst_kind hi).2 j o ho
        cases hd : o.isDead with
        | true => rfl
        | false =>
          have h1 := hro hm hd
          have h2 := List.all_eq_true.1 hn.2 t (List.mem_of_getElem? (i := j - Tin.objs.length) (by rw [List.getElem?_drop, ← ht]; congr 1; omega))
          rw [h1] at h2; cases h2
    obtain ⟨hm1, hm2, hm3⟩ := merge_ok hr1 hL hr5
    exact ⟨u, _, rfl, x1.trans hm2, hm1, rnV_ok hm3 hu⟩
end
end Go.Sx

