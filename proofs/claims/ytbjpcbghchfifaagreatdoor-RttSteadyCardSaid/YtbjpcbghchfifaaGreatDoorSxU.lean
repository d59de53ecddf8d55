/-
  A shape is looked for: what to say otherwise, which objects to keep, in which order.
-/
import Derived.Test.YtbjpcbghchfifaaGreatDoorSxT
set_option linter.all false
namespace Go.Sx
open Go

/-! ### The plan: a guess, whose outcome is checked -/
structure Pn where
  k0 : Nat
  ops : List VOp
  ros : List VOp
  pend : List (Nat × Loc)
  next : Nat
  σ : List (Nat × Nat)

def tcEmpty : TC → Col
  | .int k => .int k []
  | .bool => .bool []
  | .str => .str []
def takenBy (σ : List (Nat × Nat)) (id : Nat) : Bool := match σ with
  | [] => false
  | (_, x) :: r => Nat.beq x id || takenBy r id
/-- An expected atom, an atom, where it lies. -/
structure Wk where
  t : TA
  a : A
  l : Option Loc
def cellWk (id : Nat) : Nat → List TA → List A → List Wk
  | j, t :: ts, a :: as => ⟨t, a, some (.cell id j)⟩ :: cellWk id (j + 1) ts as
  | _, _, _ => []
def capsPn : List (Nat × Nat) → List (Nat × Nat) → List Wk
  | (i, o) :: r, (x, _) :: s => ⟨.ptr i o, .ptr x o, none⟩ :: capsPn r s
  | _, _ => []
def aggWk : List TA → List A → List Wk
  | t :: ts, a :: as => ⟨t, a, none⟩ :: aggWk ts as
  | _, _ => []
def wWk : TW → W → List Wk
  | .at t, .at a => [⟨t, a, none⟩]
  | .agg ts, .agg as => aggWk ts as
  | _, _ => []
def tupWk : List TW → List W → List Wk
  | t :: ts, a :: as => wWk t a ++ tupWk ts as
  | _, _ => []
def rootWk (fr : Fr) : List (Nat × TV) → List Wk
  | [] => []
  | (s, t) :: r => (match t, lk fr s with
    | .w (.at t), some (.at a) => [⟨t, a, some (.slot s)⟩]
    | .w (.agg ts), some (.agg as) => aggWk ts as
    | .tup ts, some (.tup as) => tupWk ts as
    | _, _ => []) ++ rootWk fr r
def lowOf (o : Option Int) : Bool := match o with | none => true | some _ => false
def hasRo : List VOp → Nat → Bool
  | [], _ => false
  | .ro x :: r, id => Nat.beq x id || hasRo r id
  | _ :: r, id => hasRo r id
def addRo (H : Heap) (id : Nat) (ros : List VOp) : List VOp :=
  match H[id]? with
  | some (.row ..) => bif hasRo ros id then ros else ros ++ [.ro id]
  | _ => ros
/-- One step of the plan. -/
def pnStep (T : Tm) (cuts : List Nat) (H : Heap) (w : Wk) (p : Pn) : Pn × List Wk :=
  match w.t, w.a with
  | .all i _, .raw (.slice none 0 0) =>
    match w.l, T.objs[i]? with
    | some l, some (.row e sz cs) => ({ p with ops := p.ops ++ [.virt l e sz (cs.map tcEmpty)], next := p.next + 1, σ := (i, p.next) :: p.σ }, [])
    | some l, some (.ro e sz cs) => ({ p with ops := p.ops ++ [.virt l e sz (cs.map tcEmpty)], ros := p.ros ++ [.ro p.next], next := p.next + 1, σ := (i, p.next) :: p.σ }, [])
    | _, _ => (p, [])
  | .all i _, .sl id _ off _ =>
    match lk p.σ i with
    | some _ => (p, [])
    | none =>
      match T.objs[i]? with
      | some (.row _ _ _) =>
        bif lowOf off && !(takenBy (cuts.map fun c => (0, c)) i) then
          bif Nat.ble p.k0 i && Nat.ble (id + 1) p.k0 then
            match w.l with
            | some l => ({ p with ops := p.ops ++ [.move l], next := p.next + 1, σ := (i, p.next) :: p.σ }, [])
            | none => (p, [])
          else ({ p with σ := (i, id) :: p.σ }, [])
        else match w.l with
          | some l => ({ p with ops := p.ops ++ [.cut l], next := p.next + 1, σ := (i, p.next) :: p.σ }, [])
          | none => ({ p with σ := (i, id) :: p.σ }, [])
      | some (.ro _ _ _) =>
        bif lowOf off && !(takenBy (cuts.map fun c => (0, c)) i) && !(takenBy p.σ id) then ({ p with ros := addRo H id p.ros, σ := (i, id) :: p.σ }, [])
        else match w.l with
          | some l => ({ p with ros := addRo H id p.ros, pend := p.pend ++ [(i, l)] }, [])
          | none => ({ p with σ := (i, id) :: p.σ }, [])
      | _ => (p, [])
  | .sl i _, .sl id _ _ _ => match lk p.σ i with
    | some _ => (p, [])
    | none => ({ p with ros := (match T.objs[i]? with | some (.ro _ _ _) => addRo H id p.ros | _ => p.ros), σ := (i, id) :: p.σ }, [])
  | .ptr i _, .ptr id _ => match lk p.σ i with
    | some _ => (p, [])
    | none => ({ p with σ := (i, id) :: p.σ }, match T.objs[i]?, H[id]? with | some (.cells _ ts), some (.cells _ as) => cellWk id 0 ts as | _, _ => [])
  | .map i, .map id => match lk p.σ i with | some _ => (p, []) | none => ({ p with σ := (i, id) :: p.σ }, [])
  | .fn _ caps, .fn _ caps' => (p, capsPn caps caps')
  | _, _ => (p, [])
def pnGo (T : Tm) (cuts : List Nat) (H : Heap) : Nat → List Wk → Pn → Pn
  | 0, _, p => p
  | _, [], p => p
  | fuel + 1, w :: ws, p => match pnStep T cuts H w p with | (p', ws') => pnGo T cuts H fuel (ws' ++ ws) p'
def keepOf (σ : List (Nat × Nat)) : Nat → List TO → List Nat
  | _, [] => []
  | i, _ :: r => (match lk σ i with | some id => id | none => i) :: keepOf σ (i + 1) r
def iota : Nat → Nat → List (Nat × Nat)
  | _, 0 => []
  | i, k + 1 => (i, i) :: iota (i + 1) k
def pendIds : Nat → List (Nat × Loc) → List (Nat × Nat)
  | _, [] => []
  | n, (i, _) :: r => (i, n) :: pendIds (n + 1) r
/-- The first k0 objects are those of the same numbers. What stays, what is but lent, what is kept. -/
def planOf (k0 : Nat) (T : Tm) (cuts : List Nat) (fr : Fr) (H : Heap) : List VOp × List VOp × List Nat :=
  let pre : List Wk := (iota 0 k0).flatMap fun (x : Nat × Nat) => (match T.objs[x.1]?, H[x.1]? with | some (TO.cells _ ts), some (AObj.cells _ as) => cellWk x.1 0 ts as | _, _ => [])
  let p := pnGo T cuts H 1000 (rootWk fr T.roots ++ pre) ⟨k0, [], [], [], H.length, iota 0 k0⟩
  (p.ops, p.ros ++ p.pend.map (fun x => .view x.2), keepOf (pendIds p.next p.pend ++ p.σ) 0 T.objs)

/-! ### The look -/
def pre0 : Nat → Nat → List Nat → Bool
  | _, 0, _ => true
  | i, k + 1, x :: r => Nat.beq x i && pre0 (i + 1) k r
  | _, _ + 1, [] => false
theorem pre0_at : ∀ {k : Nat} {i : Nat} {l : List Nat}, pre0 i k l = true → ∀ j, j < k → l[j]? = some (i + j)
  | 0, i, l, _, j, hj => by omega
  | k + 1, i, x :: r, h, j, hj => by
    simp only [pre0, Bool.and_eq_true] at h
    match j with
    | 0 => simp [Nat.eq_of_beq_eq_true h.1]
    | j + 1 =>
      have := pre0_at h.2 j (by omega)
      simp only [List.getElem?_cons_succ, this]
      congr 1; omega
  | k + 1, i, [], h, j, hj => by simp [pre0] at h
def rnFr (m : Nat → Option Nat) (fr : Fr) : Fr := fr.map fun x => (x.1, rnV m x.2)
theorem lk_rnFr {m : Nat → Option Nat} {t : Nat} : ∀ {fr : Fr}, lk (rnFr m fr) t = (lk fr t).map (rnV m)
  | [] => rfl
  | (s, v) :: r => by
    have ih := lk_rnFr (m := m) (t := t) (fr := r)
    simp only [rnFr, List.map_cons, lk] at ih ⊢
    cases Nat.beq s t with
    | true => rfl
    | false => exact ih

def look {α : Type} (k0 : Nat) (T : Tm) (cuts : List Nat) (fr : Fr) (H : Heap) (k : List Leaf → Option α) : Option α :=
  match planOf k0 T cuts fr H with
  | (ops, ops2, keep) => vops (ops ++ ops2) fr H fun fr H =>
    bif noDup keep && pre0 0 k0 keep then
      match restrict keep H with
      | some H' => seen T (rnFr (idx keep) fr) H' k
      | none => none
    else none

section
variable {P : Program} {E : Nat → Prop} {w0 ws w : World} {ρ0 ρ : List Pl} {H : Heap} {n : Nat} {fr : Fr} {a : Act} {g : Nat → Value} {α : Type}

theorem look_ok {k0 : Nat} {T : Tm} {cuts : List Nat} {k : List Leaf → Option α} {r : α} (h : look k0 T cuts fr H k = some r) (hr : HRel E w0 ρ H w) (hs : SRel ρ H fr g) :
    ∃ ls fr' H' ρ', k ls = some r ∧ inst T ls = some (fr', H') ∧ HRel E w0 ρ' H' w ∧ SRel ρ' H' fr' g ∧ (∀ i p, i < k0 → ρ[i]? = some p → ρ'[i]? = some p) ∧ (∀ t v, lk fr' t = some v → ∃ v0, lk fr t = some v0) := by
  unfold look at h
  split at h
  rename_i ops ops2 keep _
  obtain ⟨fr1, H1, h, ⟨ρ1, x1, r1, s1⟩, sub1⟩ := vops_ok (ops ++ ops2) hr hs h
  have p1 := x1.pl
  cases hb : (noDup keep && pre0 0 k0 keep) with
  | false => rw [hb] at h; cases h
  | true =>
    rw [hb] at h
    simp only [cond_true] at h
    rw [Bool.and_eq_true] at hb
    split at h
    · rename_i H2 h2
      have r2 := restrict_rel h2 hb.1 r1
      have hR := Rn.of h2 r1.len
      have s2 : SRel (rnP ρ1 keep) H2 (rnFr (idx keep) fr1) g := by
        intro t v hl
        rw [lk_rnFr] at hl
        simp only [Option.map_eq_some_iff] at hl
        obtain ⟨v0, h0, rfl⟩ := hl
        exact rnV_ok hR.mp (s1 t v0 h0)
      obtain ⟨ls, fr', H', hk, hi, hr', hs', sub, _⟩ := seen_ok h r2 s2
      refine ⟨ls, fr', H', _, hk, hi, hr', hs', fun i p hlt hp => ?_, fun t v ht => ?_⟩
      · have hki := pre0_at hb.2 i hlt
        rw [Nat.zero_add] at hki
        exact hR.place hki (p1 i p hp)
      · obtain ⟨v0, h0⟩ := sub t v ht
        rw [lk_rnFr] at h0
        simp only [Option.map_eq_some_iff] at h0
        obtain ⟨v1, h1, _⟩ := h0
        exact sub1 t v1 h1
    · cases h

theorem look_par {k0 : Nat} {T : Tm} {cuts : List Nat} {k : List Leaf → Option α} {r : α} (h : look k0 T cuts fr H k = some r) : ∃ ls, k ls = some r ∧ look k0 T cuts fr H some = some ls := by
  unfold look at h ⊢
  split at h
  rename_i ops ops2 keep hpl
  obtain ⟨fr1, H1, h, hp⟩ := vops_par (ops ++ ops2) h
  simp only [hp]
  cases hb : (noDup keep && pre0 0 k0 keep) with
  | false => rw [hb] at h; cases h
  | true =>
    rw [hb] at h
    simp only [cond_true] at h ⊢
    split at h
    · rename_i H2 h2
      obtain ⟨ls, hk, hp2⟩ := seen_par h
      exact ⟨ls, hk, by simp only [h2, hp2]⟩
    · cases h

theorem look_st {pure : Bool} {T : Tm} {cuts : List Nat} {k : List Leaf → Option α} {r : α} {k0 : Nat} (hk0 : ρ0.length = k0) (h : look k0 T cuts fr H k = some r) (hs : St pure E w0 ws n ρ0 ρ H fr a w) :
    ∃ ls fr' H' ρ', k ls = some r ∧ inst T ls = some (fr', H') ∧ St pure E w0 ws n ρ0 ρ' H' fr' a w := by
  obtain ⟨ls, fr', H', ρ', hk, hi, hr', hs', hp, sub⟩ := look_ok (g := fun t => a.tmps.getD t undef) h hs.heap hs.frame.slot
  refine ⟨ls, fr', H', ρ', hk, hi, fun i p hi => ?_, ⟨hs.frame.size, hs.frame.defers, hs', fun t v ht => ?_⟩, hr', hs.still⟩
  · exact hp i p (by rw [← hk0]; exact (List.getElem?_eq_some_iff.1 hi).1) (hs.pre i p hi)
  · obtain ⟨v0, h0⟩ := sub t v ht
    exact hs.frame.lt t v0 h0
end

/-! ### Leaves taken one by one -/
def un_i {α : Type} (l : List Leaf) (k : Int → List Leaf → Option α) : Option α := match l with | .i n :: r => k n r | _ => none
def un_b {α : Type} (l : List Leaf) (k : Bool → List Leaf → Option α) : Option α := match l with | .b n :: r => k n r | _ => none
def un_s {α : Type} (l : List Leaf) (k : ByteArray → List Leaf → Option α) : Option α := match l with | .s n :: r => k n r | _ => none
def un_li {α : Type} (l : List Leaf) (k : List Int → List Leaf → Option α) : Option α := match l with | .li n :: r => k n r | _ => none
def un_lb {α : Type} (l : List Leaf) (k : List Bool → List Leaf → Option α) : Option α := match l with | .lb n :: r => k n r | _ => none
def un_ls {α : Type} (l : List Leaf) (k : List ByteArray → List Leaf → Option α) : Option α := match l with | .ls n :: r => k n r | _ => none
def un_nil {α : Type} (l : List Leaf) (k : Option α) : Option α := match l with | [] => k | _ => none
section
variable {α : Type} {l : List Leaf} {r : α}
theorem un_i_some {k : Int → List Leaf → Option α} : un_i l k = some r ↔ ∃ n l', l = .i n :: l' ∧ k n l' = some r := by
  unfold un_i; split
  · exact ⟨fun h => ⟨_, _, rfl, h⟩, by rintro ⟨n, l', h1, h2⟩; cases h1; exact h2⟩
  · constructor
    · intro h; cases h
    · rintro ⟨n, l', rfl, _⟩; simp_all
theorem un_b_some {k : Bool → List Leaf → Option α} : un_b l k = some r ↔ ∃ n l', l = .b n :: l' ∧ k n l' = some r := by
  unfold un_b; split
  · exact ⟨fun h => ⟨_, _, rfl, h⟩, by rintro ⟨n, l', h1, h2⟩; cases h1; exact h2⟩
  · constructor
    · intro h; cases h
    · rintro ⟨n, l', rfl, _⟩; simp_all
theorem un_s_some {k : ByteArray → List Leaf → Option α} : un_s l k = some r ↔ ∃ n l', l = .s n :: l' ∧ k n l' = some r := by
  unfold un_s; split
  · exact ⟨fun h => ⟨_, _, rfl, h⟩, by rintro ⟨n, l', h1, h2⟩; cases h1; exact h2⟩
  · constructor
    · intro h; cases h
    · rintro ⟨n, l', rfl, _⟩; simp_all
theorem un_li_some {k : List Int → List Leaf → Option α} : un_li l k = some r ↔ ∃ n l', l = .li n :: l' ∧ k n l' = some r := by
  unfold un_li; split
  · exact ⟨fun h => ⟨_, _, rfl, h⟩, by rintro ⟨n, l', h1, h2⟩; cases h1; exact h2⟩
  · constructor
    · intro h; cases h
    · rintro ⟨n, l', rfl, _⟩; simp_all
theorem un_lb_some {k : List Bool → List Leaf → Option α} : un_lb l k = some r ↔ ∃ n l', l = .lb n :: l' ∧ k n l' = some r := by
  unfold un_lb; split
  · exact ⟨fun h => ⟨_, _, rfl, h⟩, by rintro ⟨n, l', h1, h2⟩; cases h1; exact h2⟩
  · constructor
    · intro h; cases h
    · rintro ⟨n, l', rfl, _⟩; simp_all
theorem un_ls_some {k : List ByteArray → List Leaf → Option α} : un_ls l k = some r ↔ ∃ n l', l = .ls n :: l' ∧ k n l' = some r := by
  unfold un_ls; split
  · exact ⟨fun h => ⟨_, _, rfl, h⟩, by rintro ⟨n, l', h1, h2⟩; cases h1; exact h2⟩
  · constructor
    · intro h; cases h
    · rintro ⟨n, l', rfl, _⟩; simp_all
theorem un_nil_some {k : Option α} : un_nil l k = some r ↔ l = [] ∧ k = some r := by
  unfold un_nil; split
  · simp
  · simp_all
end
end Go.Sx
