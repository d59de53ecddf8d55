/-
  The same world, said otherwise: a nil slice as a row of none, a part of a row as a row.
-/
import Derived.Test.YtbjpcbghchfifaaGreatDoorSxQ
set_option linter.all false
namespace Go.Sx
open Go

inductive Loc where
  | slot (s : Nat)
  | cell (id j : Nat)

def getLoc (fr : Fr) (H : Heap) : Loc → Option A
  | .slot s => match lk fr s with | some (.at a) => some a | _ => none
  | .cell id j => match H[id]? with | some (.cells _ cs) => cs[j]? | _ => none
def setLoc (fr : Fr) (H : Heap) (l : Loc) (a : A) : Option (Fr × Heap) :=
  match l with
  | .slot s => match lk fr s with | some _ => some ((s, .at a) :: fr, H) | none => none
  | .cell id j => match H[id]? with | some (.cells t cs) => some (fr, H.set id (.cells t (cs.set j a))) | _ => none

def cutCol (o l : Int) : Col → Option Col
  | .int k x => some (.int k ((x.drop o.toNat).take l.toNat))
  | .bool x => some (.bool ((x.drop o.toNat).take l.toNat))
  | .str x => some (.str ((x.drop o.toNat).take l.toNat))
  | .ats _ => none
def cutCols (o l : Int) : List Col → Option (List Col)
  | [] => some []
  | a :: r => match cutCol o l a, cutCols o l r with | some x, some l => some (x :: l) | _, _ => none
def emptyCols : List Col → Bool
  | [] => true
  | c :: r => Nat.beq c.len 0 && emptyCols r

inductive VOp where
  | virt (l : Loc) (e sz : Nat) (cols : List Col)
  | cut (l : Loc)
  | ro (id : Nat)
  | view (l : Loc)
  | move (l : Loc)

def doVirt (fr : Fr) (H : Heap) (l : Loc) (e sz : Nat) (cols : List Col) : Option (Fr × Heap) :=
  match getLoc fr H l with
  | some (.raw (.slice none 0 0)) =>
    bif emptyCols cols && Nat.beq cols.length sz && Nat.ble 1 sz then setLoc fr (H ++ [.row e sz 0 cols]) l (.sl H.length sz none 0) else none
  | _ => none
def doCut (fr : Fr) (H : Heap) (l : Loc) : Option (Fr × Heap × Bool) :=
  match getLoc fr H l with
  | some (.sl id sz off len) =>
    match H[id]? with
    | some (.row e sz' n cols) =>
      match cutCols (off.getD 0) len cols with
      | some cols' =>
        bif Nat.beq sz sz' then
          match setLoc fr (H.set id .dead ++ [.row e sz len cols']) l (.sl H.length sz none len) with
          | some (fr', H') => some (fr', H', decide (off.getD 0 + len ≤ n))
          | none => none
        else none
      | none => none
    | _ => none
  | _ => none
def doMove (fr : Fr) (H : Heap) (l : Loc) : Option (Fr × Heap) :=
  match getLoc fr H l with
  | some (.sl id sz off len) =>
    match H[id]? with
    | some (.row e sz' n cols) => bif Nat.beq sz sz' then setLoc fr (H.set id .dead ++ [.row e sz n cols]) l (.sl H.length sz off len) else none
    | _ => none
  | _ => none
def doRo (H : Heap) (id : Nat) : Option Heap :=
  match H[id]? with
  | some (.row e sz n cols) => some (H.set id (.ro e sz n cols))
  | _ => none
def doView (fr : Fr) (H : Heap) (l : Loc) : Option (Fr × Heap × Bool) :=
  match getLoc fr H l with
  | some (.sl id sz off len) =>
    match H[id]? with
    | some (.ro e sz' n cols) =>
      match cutCols (off.getD 0) len cols with
      | some cols' =>
        bif Nat.beq sz sz' then
          match setLoc fr (H ++ [.ro e sz len cols']) l (.sl H.length sz none len) with
          | some (fr', H') => some (fr', H', decide (off.getD 0 + len ≤ n))
          | none => none
        else none
      | none => none
    | _ => none
  | _ => none
def vop (v : VOp) (fr : Fr) (H : Heap) : Option (Fr × Heap × Bool) :=
  match v with
  | .virt l e sz cols => match doVirt fr H l e sz cols with | some (fr', H') => some (fr', H', true) | none => none
  | .cut l => doCut fr H l
  | .ro id => match doRo H id with | some H' => some (fr, H', true) | none => none
  | .view l => doView fr H l
  | .move l => match doMove fr H l with | some (fr', H') => some (fr', H', true) | none => none
def vops {α : Type} : List VOp → Fr → Heap → (Fr → Heap → Option α) → Option α
  | [], fr, H, k => k fr H
  | v :: r, fr, H, k => match vop v fr H with
    | some (fr', H', c) => chk c (vops r fr' H' k)
    | none => none

/-- What the slots hold. -/
def SRel (ρ : List Pl) (H : Heap) (fr : Fr) (g : Nat → Value) : Prop := ∀ t v, lk fr t = some v → VRel ρ H v (g t)
theorem SRel.ext {ρ ρ' : List Pl} {H H' : Heap} {fr : Fr} {g : Nat → Value} (h : SRel ρ H fr g) (e : Ext ρ H ρ' H') : SRel ρ' H' fr g := fun t v hl => (h t v hl).ext e

section
variable {P : Program} {E : Nat → Prop} {w0 w : World} {ρ ρ1 : List Pl} {H H1 H' : Heap} {fr fr' : Fr} {g : Nat → Value}

theorem lk_cons {α : Type} {s t : Nat} {x : α} {l : List (Nat × α)} : lk ((s, x) :: l) t = if s = t then some x else lk l t := by
  simp only [lk]
  cases hb : Nat.beq s t with
  | true => rw [if_pos (Nat.eq_of_beq_eq_true hb)]; rfl
  | false => rw [if_neg (Nat.ne_of_beq_eq_false hb)]; rfl

/-- An object said otherwise. -/
theorem HRel.repl (h : HRel E w0 ρ H w) {id : Nat} {p : Pl} {o o' : AObj} (hp : ρ[id]? = some p) (ho : H[id]? = some o) (hm : o'.mut = true → o.mut = true) (hd : o.isDead = false)
    (hn : ObjRel ρ (H.set id o') w p o') : HRel E w0 ρ (H.set id o') w := by
  have hx : Ext ρ H ρ (H.set id o') := Ext.set ho hd
  have get : ∀ (i : Nat) (q : AObj), (H.set id o')[i]? = some q → (i = id ∧ q = o') ∨ (i ≠ id ∧ H[i]? = some q) := by
    intro i q hq
    rw [List.getElem?_set] at hq
    split at hq
    · rename_i e; subst e; simp [(List.getElem?_eq_some_iff.1 ho).1] at hq; exact .inl ⟨rfl, hq.symm⟩
    · rename_i e; exact .inr ⟨fun e' => e e'.symm, hq⟩
  refine ⟨by simp [h.len], ?_, ?_, ?_, h.kept⟩
  · intro i q x hq hx'
    rcases get i x hx' with ⟨rfl, rfl⟩ | ⟨hne, hi⟩
    · rw [hp] at hq; cases hq; exact hn
    · exact (h.obj i q x hq hi).ext hx rfl
  · intro i j q r o1 o2 hq hrr h1 h2 hmm hdd hqr hrr' hij
    have m1 : ∃ o1', H[i]? = some o1' ∧ o1'.mut = true := by
      rcases get i o1 h1 with ⟨rfl, rfl⟩ | ⟨_, h1'⟩
      · exact ⟨o, ho, hm hmm⟩
      · exact ⟨o1, h1', hmm⟩
    have m2 : ∃ o2', H[j]? = some o2' ∧ o2'.isDead = false := by
      rcases get j o2 h2 with ⟨rfl, rfl⟩ | ⟨_, h2'⟩
      · exact ⟨o, ho, hd⟩
      · exact ⟨o2, h2', hdd⟩
    obtain ⟨o1', h1', hm1⟩ := m1
    obtain ⟨o2', h2', hd2⟩ := m2
    exact h.inj i j q r o1' o2' hq hrr h1' h2' hm1 hd2 hqr hrr' hij
  · intro i q x hq hx' hmx hqr
    rcases get i x hx' with ⟨rfl, rfl⟩ | ⟨_, hi⟩
    · rw [hp] at hq; cases hq; exact h.own i p o hp ho (hm hmx) hqr
    · exact h.own i q x hq hi hmx hqr

/-- A read-only row in the block of another one. -/
theorem HRel.pushRo (h : HRel E w0 ρ H w) {id : Nat} {p pl : Pl} {o o' : AObj} (hp : ρ[id]? = some p) (ho : H[id]? = some o) (hm : o.mut = false) (hd : o.isDead = false) (hb : pl.blk = p.blk) (hrl : pl.real = p.real) (hm' : o'.mut = false)
    (hn : ObjRel (ρ ++ [pl]) (H ++ [o']) w pl o') : HRel E w0 (ρ ++ [pl]) (H ++ [o']) w := by
  have hx := Ext.push h.len pl o'
  have hlen := h.len
  have old : ∀ (i : Nat) (p : Pl) (q : AObj), (ρ ++ [pl])[i]? = some p → (H ++ [o'])[i]? = some q → (ρ[i]? = some p ∧ H[i]? = some q) ∨ (i = H.length ∧ p = pl ∧ q = o') := by
    intro i p q hp hq
    by_cases hi : i < H.length
    · rw [List.getElem?_append_left (by omega)] at hp
      rw [List.getElem?_append_left hi] at hq
      exact .inl ⟨hp, hq⟩
    · have : i < (H ++ [o']).length := (List.getElem?_eq_some_iff.1 hq).1
      simp at this
      have e : i = H.length := by omega
      subst e
      rw [← hlen, List.getElem?_append_right (Nat.le_refl _)] at hp
      rw [List.getElem?_append_right (Nat.le_refl _)] at hq
      simp at hp hq
      exact .inr ⟨rfl, hp.symm, hq.symm⟩
  refine ⟨by simp [hlen], ?_, ?_, ?_, h.kept⟩
  · intro i p q hp hq
    rcases old i p q hp hq with ⟨hp, hq⟩ | ⟨_, rfl, rfl⟩
    · exact (h.obj i p q hp hq).ext hx rfl
    · exact hn
  · intro i j q r o1 o2 hq hrr h1 h2 hmm hdd hqr hrr' hij
    rcases old i q o1 hq h1 with ⟨hq', h1'⟩ | ⟨hi, rfl, rfl⟩
    · rcases old j r o2 hrr h2 with ⟨hr', h2'⟩ | ⟨hj, rfl, rfl⟩
      · exact h.inj i j q r o1 o2 hq' hr' h1' h2' hmm hdd hqr hrr' hij
      · rw [hb]
        refine h.inj i id q p o1 o hq' hp h1' ho hmm hd hqr (by rw [← hrl]; exact hrr') fun e => ?_
        subst e; rw [ho] at h1'; cases h1'; rw [hm] at hmm; cases hmm
    · rw [hm'] at hmm; cases hmm
  · intro i q x hq hxx hmx hqr
    rcases old i q x hq hxx with ⟨hq', h1'⟩ | ⟨hi, rfl, rfl⟩
    · exact h.own i q x hq' h1' hmx hqr
    · rw [hm'] at hmx; cases hmx

theorem set_cells_ok {j : Nat} {t : TypeId} {cs : List A} {a' : A} {p : Pl} (hob : ObjRel ρ H w p (.cells t cs)) (e : Ext ρ H ρ1 H1)
    (ha : ∀ a u, cs[j]? = some a → ARel ρ H a u → ARel ρ1 H1 a' u) : ObjRel ρ1 H1 w p (.cells t (cs.set j a')) := by
  obtain ⟨h1, h2, cur, h3, h4⟩ := hob
  refine ⟨h1, h2, cur, h3, by simp [h4.1], fun k b v hb hv => ?_⟩
  rw [List.getElem?_set] at hb
  split at hb
  · rename_i e; subst e
    split at hb
    · rename_i hlt
      cases hb
      exact ha _ v (List.getElem?_eq_getElem hlt) (h4.2 j _ v (List.getElem?_eq_getElem hlt) hv)
    · cases hb
  · exact (h4.2 k b v hb hv).ext e

theorem setLoc_rel (h1 : HRel E w0 ρ1 H1 w) (hr : HRead ρ H w) (e : Ext ρ H ρ1 H1) (hs : SRel ρ H fr g) {l : Loc} {a a' : A} (hl : getLoc fr H l = some a)
    (hsame : ∀ id j, l = .cell id j → H1[id]? = H[id]?) (ha : ∀ u, ARel ρ H a u → ARel ρ1 H1 a' u) (h : setLoc fr H1 l a' = some (fr', H')) :
    HRel E w0 ρ1 H' w ∧ SRel ρ1 H' fr' g ∧ Ext ρ1 H1 ρ1 H' ∧ (∀ t v, lk fr' t = some v → ∃ v0, lk fr t = some v0) := by
  cases l with
  | slot s =>
    simp only [setLoc] at h
    split at h
    · rename_i v0 hv0
      cases h
      refine ⟨h1, fun t v ht => ?_, Ext.refl _ _, fun t v ht => ?_⟩
      · rw [lk_cons] at ht
        split at ht
        · rename_i e'; subst e'
          cases ht
          simp only [getLoc] at hl
          split at hl
          · rename_i b hb; cases hl; exact ha _ (hs _ _ hb)
          · cases hl
        · exact (hs t v ht).ext e
      · rw [lk_cons] at ht
        split at ht
        · rename_i e'; subst e'; exact ⟨_, hv0⟩
        · exact ⟨_, ht⟩
    · cases h
  | cell id j =>
    simp only [setLoc] at h
    split at h
    · rename_i t cs hid
      cases h
      have hid0 : H[id]? = some (.cells t cs) := by rw [← hsame id j rfl]; exact hid
      simp only [getLoc, hid0] at hl
      obtain ⟨p, hp, hob⟩ := hr.at hid0
      have hx : Ext ρ1 H1 ρ1 (H1.set id (.cells t (cs.set j a'))) := Ext.set hid rfl
      have hn := set_cells_ok (j := j) (a' := a') hob (e.trans hx) (fun b u hb hbu => by rw [hl] at hb; cases hb; exact (ha u hbu).ext hx)
      exact ⟨h1.repl (e.pl _ _ hp) hid (fun _ => rfl) rfl hn, (hs.ext e).ext hx, hx, fun t v ht => ⟨v, ht⟩⟩
    · cases h

theorem cutCol_at {o l : Int} {a x : Col} (h : cutCol o l a = some x) (hl : o.toNat + l.toNat ≤ a.len) : x.len = l.toNat ∧ ∀ i, i < l.toNat → x.at i = a.at (o.toNat + i) ∧ (∃ v, x.at i = .raw v) := by
  cases a <;> simp only [cutCol, Option.some.injEq] at h <;> first
    | (cases h; done)
    | (subst h
       simp only [Col.len] at hl
       refine ⟨by simp [Col.len]; omega, fun i hi => ⟨?_, ⟨_, rfl⟩⟩⟩
       simp [Col.at, List.getD_eq_getElem?_getD, List.getElem?_take, hi, List.getElem?_drop])
theorem cutCols_at {o l : Int} : ∀ {as xs : List Col}, cutCols o l as = some xs → xs.length = as.length ∧ ∀ (j : Nat) (x : Col), xs[j]? = some x → ∃ a, as[j]? = some a ∧ cutCol o l a = some x
  | [], xs, h => by simp only [cutCols, Option.some.injEq] at h; subst h; exact ⟨rfl, fun j a ha => by simp at ha⟩
  | a :: as, xs, h => by
    simp only [cutCols] at h
    split at h
    · rename_i x l' h1 h2
      cases h
      obtain ⟨a1, a2⟩ := cutCols_at h2
      refine ⟨by simp [a1], fun j b hb => ?_⟩
      match j with
      | 0 => simp at hb; subst hb; exact ⟨a, rfl, h1⟩
      | j + 1 => simp at hb; obtain ⟨y, hy, hy2⟩ := a2 j b hb; exact ⟨y, by simpa using hy, hy2⟩
    · cases h

theorem emptyCols_at : ∀ {cols : List Col}, emptyCols cols = true → ∀ c ∈ cols, c.len = 0
  | [], _, c, hc => by simp at hc
  | d :: ds, h, c, hc => by
    simp only [emptyCols, Bool.and_eq_true] at h
    simp at hc
    rcases hc with rfl | hc
    · exact Nat.eq_of_beq_eq_true h.1
    · exact emptyCols_at h.2 c hc

/-- The place of a part. -/
def cutPl (p : Pl) (sz : Nat) (o : Int) : Pl := ⟨p.blk, p.off + o.toNat * sz, p.cap - o.toNat, p.real⟩
theorem cutRow_ok {p : Pl} {sz : Nat} {n o len : Int} {cols cols' : List Col} (h : RowOk p sz n cols) (hc : cutCols o len cols = some cols') (h0 : 0 ≤ o) (h1 : 0 ≤ len) (hle : o + len ≤ n) :
    RowOk (cutPl p sz o) sz len cols' := by
  obtain ⟨k1, k2, k3, k4, k5, k6, k7⟩ := h
  obtain ⟨s1, s2⟩ := cutCols_at hc
  refine ⟨h1, fun c hc => ?_, by omega, k4, by simp [cutPl]; omega, by simp [cutPl]; omega, fun hf => by have := k7 hf; simp [cutPl]; omega⟩
  obtain ⟨j, hj, rfl⟩ := List.getElem_of_mem hc
  obtain ⟨b, hb, hb2⟩ := s2 j _ (List.getElem?_eq_getElem hj)
  exact (cutCol_at hb2 (by rw [k2 b (List.mem_of_getElem? hb)]; omega)).1
theorem cutRow_cols {p : Pl} {sz : Nat} {n o len : Int} {cols cols' : List Col} {cur : Array Value} (h : RowOk p sz n cols) (hc : cutCols o len cols = some cols') (h0 : 0 ≤ o) (h1 : 0 ≤ len) (hle : o + len ≤ n)
    (hr : ColsRel ρ H p sz n cols cur) : ColsRel ρ1 H1 (cutPl p sz o) sz len cols' cur := by
  obtain ⟨k1, k2, k3, k4, k5, k6, k7⟩ := h
  obtain ⟨s1, s2⟩ := cutCols_at hc
  intro i f c hi hcf
  obtain ⟨b, hb, hb2⟩ := s2 f c hcf
  obtain ⟨g1, g2⟩ := cutCol_at hb2 (by rw [k2 b (List.mem_of_getElem? hb)]; omega)
  obtain ⟨e1, v, e2⟩ := g2 i hi
  obtain ⟨u, hu, hua⟩ := hr (o.toNat + i) f b (by omega) hb
  refine ⟨u, ?_, ?_⟩
  · rw [← hu]; congr 1; simp only [cutPl]; rw [Nat.add_mul]; omega
  · rw [← e1, e2] at hua; rw [e2]; exact hua
theorem cutSl_ok {p : Pl} {sz : Nat} {off : Option Int} {len : Int} {u : Value} (h : SlRel p sz (off.getD 0) len u) : SlRel (cutPl p sz (off.getD 0)) sz 0 len u := by
  obtain ⟨h0, h1, h2, hs⟩ := h
  refine ⟨by simp, h1, by simp [cutPl]; omega, ?_⟩
  rcases hs with ⟨hr, a, hu, ha⟩ | ⟨hr, hc, hu⟩
  · exact .inl ⟨hr, a, by simpa [cutPl] using hu, fun hne => by rw [ha (by simpa [cutPl] using hne)]; simp [cutPl, Pl.addr]⟩
  · exact .inr ⟨hr, by simp [cutPl, hc], hu⟩

theorem get_len {H : Heap} {o : AObj} : (H ++ [o])[H.length]? = some o := by simp
theorem pl_len {ρ : List Pl} {H : Heap} {p : Pl} (h : ρ.length = H.length) : (ρ ++ [p])[H.length]? = some p := by rw [← h]; simp

/-- What one operation on what is said does to the relation. -/
structure VOk (E : Nat → Prop) (w0 w : World) (ρ : List Pl) (H : Heap) (fr : Fr) (g : Nat → Value) (fr' : Fr) (H' : Heap) : Prop where
  ok : ∃ ρ' : List Pl, Ext ρ H ρ' H' ∧ HRel E w0 ρ' H' w ∧ SRel ρ' H' fr' g
  sub : ∀ t v, lk fr' t = some v → ∃ v0, lk fr t = some v0

theorem vop_ok {v : VOp} {c : Bool} (hr : HRel E w0 ρ H w) (hs : SRel ρ H fr g) (h : vop v fr H = some (fr', H', c)) (hc : c = true) : VOk E w0 w ρ H fr g fr' H' := by
  cases v with
  | virt l e sz cols =>
    simp only [vop, doVirt] at h
    split at h
    · rename_i fr2 H2 h2
      cases h
      split at h2
      · rename_i hl
        cases hb : (emptyCols cols && Nat.beq cols.length sz && Nat.ble 1 sz) with
        | false => rw [hb] at h2; cases h2
        | true =>
          rw [hb] at h2
          simp only [Bool.and_eq_true] at hb
          have b1 := emptyCols_at hb.1.1
          have b2 := Nat.eq_of_beq_eq_true hb.1.2
          have b3 := Nat.le_of_ble_eq_true hb.2
          have hok : RowOk ⟨0, 0, 0, false⟩ sz 0 cols := ⟨by omega, fun c hc => by simpa using b1 c hc, b2, by omega, by simp, by simp [maxLen], fun _ => rfl⟩
          have hp := hr.virtual (pl := ⟨0, 0, 0, false⟩) (o := .row e sz 0 cols) rfl ⟨hok, fun hf => by simp at hf⟩
          have hx := Ext.push hr.len ⟨0, 0, 0, false⟩ (AObj.row e sz 0 cols)
          obtain ⟨r1, r2, r3, r4⟩ := setLoc_rel hp hr.read hx hs hl (fun id j hlj => by
              subst hlj
              simp only [getLoc] at hl
              split at hl
              · rename_i t cs hid; rw [List.getElem?_append_left (List.getElem?_eq_some_iff.1 hid).1]
              · cases hl)
            (fun u hu => by
              simp only [ARel] at hu; subst hu
              exact .inr ⟨_, pl_len hr.len, by simp, by simp, by simp, .inr ⟨rfl, rfl, rfl⟩⟩) h2
          exact ⟨⟨_, hx.trans r3, r1, r2⟩, r4⟩
      · cases h2
    · cases h
  | cut l =>
    simp only [vop, doCut] at h
    split at h
    · rename_i id sz off len hl
      split at h
      · rename_i e sz' n cols hid
        split at h
        · rename_i cols' hcols
          cases hb : Nat.beq sz sz' with
          | false => rw [hb] at h; cases h
          | true =>
            have e' := Nat.eq_of_beq_eq_true hb
            subst e'
            rw [hb] at h
            simp only [cond_true] at h
            split at h
            · rename_i fr2 H2 h2
              cases h
              have hle := of_decide_eq_true hc
              obtain ⟨p, hp, hok, hreal⟩ := hr.at hid
              have hng : ¬ Gone H id := by unfold Gone; rw [hid]; simp
              have hk : Ext ρ H ρ (H.set id .dead) := Ext.kill
              have hx : Ext ρ H (ρ ++ [cutPl p sz (off.getD 0)]) (H.set id .dead ++ [.row e sz len cols']) := hk.trans (Ext.push (by simp [hr.len]) _ _)
              have hsl : ∃ u, SlRel p sz (off.getD 0) len u := by
                cases l with
                | slot s =>
                  simp only [getLoc] at hl
                  split at hl
                  · rename_i b hb; cases hl
                    obtain ⟨q, hq, hu⟩ := (hs _ _ hb).resolve_left hng
                    rw [hp] at hq; cases hq
                    exact ⟨_, hu⟩
                  · cases hl
                | cell id2 j =>
                  simp only [getLoc] at hl
                  split at hl
                  · rename_i t cs hid2
                    obtain ⟨p2, hp2, _, _, cur, _, h4⟩ := hr.at hid2
                    obtain ⟨u, _, hu⟩ := h4.get hl
                    obtain ⟨q, hq, hu⟩ := hu.resolve_left hng
                    rw [hp] at hq; cases hq
                    exact ⟨_, hu⟩
                  · cases hl
              obtain ⟨u0, s0, s1, _⟩ := hsl
              have hrow := cutRow_ok hok hcols s0 s1 hle
              have hnew : HRel E w0 (ρ ++ [cutPl p sz (off.getD 0)]) (H.set id .dead ++ [.row e sz len cols']) w := by
                cases hrl : p.real with
                | true =>
                  obtain ⟨cur, c1, c2, c3⟩ := hreal hrl
                  refine hr.take hp hid rfl hrl rfl rfl rfl rfl rfl (fun _ _ => rfl) ⟨hrow, fun _ => ⟨cur, c1, ?_, cutRow_cols hok hcols s0 s1 hle c3⟩⟩
                  obtain ⟨k1, k2, k3, k4, k5, k6, k7⟩ := hok
                  simp only [cutPl]
                  have : (off.getD 0).toNat * sz + (p.cap - (off.getD 0).toNat) * sz = p.cap * sz := by rw [← Nat.add_mul]; congr 1; omega
                  omega
                | false =>
                  have hpp : (cutPl p sz (off.getD 0)).real = false := hrl
                  exact (hr.kill id).virtual hpp ⟨hrow, fun hf => by rw [hpp] at hf; cases hf⟩
              obtain ⟨r1, r2, r3, r4⟩ := setLoc_rel hnew hr.read hx hs hl (fun id2 j hlj => by
                  subst hlj
                  simp only [getLoc] at hl
                  split at hl
                  · rename_i t cs hid2
                    have hne : id ≠ id2 := fun e => by subst e; rw [hid] at hid2; cases hid2
                    rw [List.getElem?_append_left (by simpa using (List.getElem?_eq_some_iff.1 hid2).1), List.getElem?_set_ne hne]
                  · cases hl)
                (fun u hu => by
                  obtain ⟨q, hq, hu⟩ := hu.resolve_left hng
                  rw [hp] at hq; cases hq
                  refine .inr ⟨_, ?_, by simpa using cutSl_ok hu⟩
                  rw [← hr.len]; simp) h2
              exact ⟨⟨_, hx.trans r3, r1, r2⟩, r4⟩
            · cases h
        · cases h
      · cases h
    · cases h
  | ro id =>
    simp only [vop, doRo] at h
    split at h
    · rename_i H2 h2
      cases h
      split at h2
      · rename_i e sz n cols hid
        cases h2
        obtain ⟨p, hp, hok, hreal⟩ := hr.at hid
        have hx : Ext ρ H ρ (H.set id (.ro e sz n cols)) := Ext.set hid rfl
        refine ⟨⟨ρ, hx, hr.repl hp hid (fun h => by cases h) rfl ⟨hok, fun hrl => ?_⟩, hs.ext hx⟩, fun t v ht => ⟨v, ht⟩⟩
        obtain ⟨cur, c1, c2, c3⟩ := hreal hrl
        exact ⟨cur, _, _, c1, c3.ext hx⟩
      · cases h2
    · cases h
  | view l =>
    simp only [vop, doView] at h
    split at h
    · rename_i id sz off len hl
      split at h
      · rename_i e sz' n cols hid
        split at h
        · rename_i cols' hcols
          cases hb : Nat.beq sz sz' with
          | false => rw [hb] at h; cases h
          | true =>
            have e' := Nat.eq_of_beq_eq_true hb
            subst e'
            rw [hb] at h
            simp only [cond_true] at h
            split at h
            · rename_i fr2 H2 h2
              cases h
              have hle := of_decide_eq_true hc
              obtain ⟨p, hp, hok, hreal⟩ := hr.at hid
              have hng : ¬ Gone H id := by unfold Gone; rw [hid]; simp
              have hx : Ext ρ H (ρ ++ [cutPl p sz (off.getD 0)]) (H ++ [.ro e sz len cols']) := Ext.push hr.len _ _
              have hsl : ∃ u, SlRel p sz (off.getD 0) len u := by
                cases l with
                | slot s =>
                  simp only [getLoc] at hl
                  split at hl
                  · rename_i b hb; cases hl
                    obtain ⟨q, hq, hu⟩ := (hs _ _ hb).resolve_left hng
                    rw [hp] at hq; cases hq
                    exact ⟨_, hu⟩
                  · cases hl
                | cell id2 j =>
                  simp only [getLoc] at hl
                  split at hl
                  · rename_i t cs hid2
                    obtain ⟨p2, hp2, _, _, cur, _, h4⟩ := hr.at hid2
                    obtain ⟨u, _, hu⟩ := h4.get hl
                    obtain ⟨q, hq, hu⟩ := hu.resolve_left hng
                    rw [hp] at hq; cases hq
                    exact ⟨_, hu⟩
                  · cases hl
              obtain ⟨u0, s0, s1, _⟩ := hsl
              have hrow := cutRow_ok hok hcols s0 s1 hle
              have hnew : HRel E w0 (ρ ++ [cutPl p sz (off.getD 0)]) (H ++ [.ro e sz len cols']) w := by
                refine hr.pushRo hp hid rfl rfl rfl rfl rfl ⟨hrow, fun hrl => ?_⟩
                obtain ⟨cur, t, fz, c1, c3⟩ := hreal hrl
                exact ⟨cur, t, fz, c1, cutRow_cols hok hcols s0 s1 hle c3⟩
              obtain ⟨r1, r2, r3, r4⟩ := setLoc_rel hnew hr.read hx hs hl (fun id2 j hlj => by
                  subst hlj
                  simp only [getLoc] at hl
                  split at hl
                  · rename_i t cs hid2; rw [List.getElem?_append_left (List.getElem?_eq_some_iff.1 hid2).1]
                  · cases hl)
                (fun u hu => by
                  obtain ⟨q, hq, hu⟩ := hu.resolve_left hng
                  rw [hp] at hq; cases hq
                  exact .inr ⟨_, pl_len hr.len, by simpa using cutSl_ok hu⟩) h2
              exact ⟨⟨_, hx.trans r3, r1, r2⟩, r4⟩
            · cases h
        · cases h
      · cases h
    · cases h
  | move l =>
    simp only [vop, doMove] at h
    split at h
    · rename_i fr2 H2 h2
      cases h
      split at h2
      · rename_i id sz off len hl
        split at h2
        · rename_i e sz' n cols hid
          cases hb : Nat.beq sz sz' with
          | false => rw [hb] at h2; cases h2
          | true =>
            have e' := Nat.eq_of_beq_eq_true hb
            subst e'
            rw [hb] at h2
            simp only [cond_true] at h2
            obtain ⟨p, hp, hok, hreal⟩ := hr.at hid
            have hng : ¬ Gone H id := by unfold Gone; rw [hid]; simp
            have hk : Ext ρ H ρ (H.set id .dead) := Ext.kill
            have hx : Ext ρ H (ρ ++ [p]) (H.set id .dead ++ [.row e sz n cols]) := hk.trans (Ext.push (by simp [hr.len]) _ _)
            have hnew : HRel E w0 (ρ ++ [p]) (H.set id .dead ++ [.row e sz n cols]) w := by
              cases hrl : p.real with
              | true =>
                obtain ⟨cur, c1, c2, c3⟩ := hreal hrl
                exact hr.take hp hid rfl hrl rfl rfl rfl rfl rfl (fun _ _ => rfl) ⟨hok, fun _ => ⟨cur, c1, c2, c3.ext hx⟩⟩
              | false => exact (hr.kill id).virtual hrl ⟨hok, fun hf => by rw [hrl] at hf; cases hf⟩
            obtain ⟨r1, r2, r3, r4⟩ := setLoc_rel hnew hr.read hx hs hl (fun id2 j hlj => by
                subst hlj
                simp only [getLoc] at hl
                split at hl
                · rename_i t cs hid2
                  have hne : id ≠ id2 := fun e => by subst e; rw [hid] at hid2; cases hid2
                  rw [List.getElem?_append_left (by simpa using (List.getElem?_eq_some_iff.1 hid2).1), List.getElem?_set_ne hne]
                · cases hl)
              (fun u hu => by
                obtain ⟨q, hq, hu⟩ := hu.resolve_left hng
                rw [hp] at hq; cases hq
                refine .inr ⟨_, ?_, hu⟩
                rw [← hr.len]; simp) h2
            exact ⟨⟨_, hx.trans r3, r1, r2⟩, r4⟩
        · cases h2
      · cases h2
    · cases h

theorem vops_ok {α : Type} {k : Fr → Heap → Option α} {r : α} : ∀ (l : List VOp) {ρ : List Pl} {fr : Fr} {H : Heap}, HRel E w0 ρ H w → SRel ρ H fr g → vops l fr H k = some r →
    ∃ fr' H', k fr' H' = some r ∧ VOk E w0 w ρ H fr g fr' H'
  | [], ρ, fr, H, hr, hs, h => ⟨fr, H, h, ⟨ρ, Ext.refl _ _, hr, hs⟩, fun t v ht => ⟨v, ht⟩⟩
  | v :: l, ρ, fr, H, hr, hs, h => by
    simp only [vops] at h
    split at h
    · rename_i fr1 H1 c hv
      obtain ⟨hc, h⟩ := chk_some.1 h
      have hok := vop_ok hr hs hv hc
      obtain ⟨⟨ρ', a, b, cc⟩, d⟩ := hok
      obtain ⟨fr2, H2, hk, hok2⟩ := vops_ok l b cc h
      obtain ⟨⟨ρ2, a2, b2, c2⟩, d2⟩ := hok2
      exact ⟨fr2, H2, hk, ⟨ρ2, a.trans a2, b2, c2⟩, fun t v ht => by obtain ⟨v1, h1⟩ := d2 t v ht; exact d t v1 h1⟩
    · cases h

theorem vops_par {α : Type} {k : Fr → Heap → Option α} {r : α} : ∀ (l : List VOp) {fr : Fr} {H : Heap}, vops l fr H k = some r → ∃ fr' H', k fr' H' = some r ∧ ∀ {β : Type} (k' : Fr → Heap → Option β), vops l fr H k' = k' fr' H'
  | [], fr, H, h => ⟨fr, H, h, fun _ => rfl⟩
  | v :: l, fr, H, h => by
    simp only [vops] at h
    split at h
    · rename_i fr1 H1 c hv
      obtain ⟨hc, h⟩ := chk_some.1 h
      obtain ⟨fr', H', hk, hp⟩ := vops_par l h
      exact ⟨fr', H', hk, fun k' => by simp only [vops, hv, hc, chk_true, hp]⟩
    · cases h
end
end Go.Sx
