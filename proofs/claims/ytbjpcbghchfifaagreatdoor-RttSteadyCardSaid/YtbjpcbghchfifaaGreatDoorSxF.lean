/-
  How a heap is turned: a new object; an object that is written; one that is given up.
-/
import Derived.Test.YtbjpcbghchfifaaGreatDoorSxE
set_option linter.all false
namespace Go.Sx
open Go

section
variable {P : Program} {E : Nat → Prop} {w0 w w' : World} {ρ : List Pl} {H : Heap}

theorem Ext.push (h : ρ.length = H.length) (pl : Pl) (o : AObj) : Ext ρ H (ρ ++ [pl]) (H ++ [o]) := by
  refine ⟨fun i p hp => ?_, fun i hg => ?_⟩
  · rw [List.getElem?_append_left (List.getElem?_eq_some_iff.1 hp).1]; exact hp
  · unfold Gone at hg ⊢
    rw [List.getElem?_append_left (List.getElem?_eq_some_iff.1 hg).1]; exact hg

theorem Ext.set {id : Nat} {o o' : AObj} (ho : H[id]? = some o) (hd : o.isDead = false) : Ext ρ H ρ (H.set id o') := by
  refine ⟨fun i p hp => hp, fun i hg => ?_⟩
  unfold Gone at hg ⊢
  rw [List.getElem?_set]
  split
  · rename_i e; subst e; rw [ho] at hg; cases hg; cases hd
  · exact hg

theorem Ext.kill {id : Nat} : Ext ρ H ρ (H.set id .dead) := by
  refine ⟨fun i p hp => hp, fun i hg => ?_⟩
  unfold Gone at hg ⊢
  rw [List.getElem?_set]
  split
  · rename_i e; subst e; simp [(List.getElem?_eq_some_iff.1 hg).1]
  · exact hg

theorem real_lt {p : Pl} {o : AObj} (hr : p.real = true) (hd : o.isDead = false) (h : ObjRel ρ H w p o) : p.blk < w.heap.size := by
  have key : ∀ {x : Obj}, w.heap[p.blk]? = some x → p.blk < w.heap.size := fun hx => (Array.getElem?_eq_some_iff.1 hx).1
  cases o with
  | dead => cases hd
  | cells t cs => obtain ⟨_, _, cur, hc, _⟩ := h; exact key hc
  | row e sz n cols => obtain ⟨cur, hc, _⟩ := h.2 hr; exact key hc
  | ro e sz n cols => obtain ⟨cur, t, fz, hc, _⟩ := h.2 hr; exact key hc
  | map kt ks col => obtain ⟨_, _, es, clock, hc, _⟩ := h; exact key hc

/-- A new object in a new block. -/
theorem HRel.push (h : HRel E w0 ρ H w) {pl : Pl} {o : AObj} (hos : w'.os = w.os) (htp : w'.tape = w.tape) (hou : w'.output = w.output)
    (hsz : w.heap.size ≤ w'.heap.size) (hold : ∀ k, k < w.heap.size → w'.heap[k]? = w.heap[k]?)
    (hpl : pl.real = true → w.heap.size ≤ pl.blk) (ho : ObjRel (ρ ++ [pl]) (H ++ [o]) w' pl o) : HRel E w0 (ρ ++ [pl]) (H ++ [o]) w' := by
  have hx := Ext.push h.len pl o
  have hlen := h.len
  have old : ∀ (i : Nat) (p : Pl) (q : AObj), (ρ ++ [pl])[i]? = some p → (H ++ [o])[i]? = some q → (ρ[i]? = some p ∧ H[i]? = some q) ∨ (i = H.length ∧ p = pl ∧ q = o) := by
    intro i p q hp hq
    by_cases hi : i < H.length
    · rw [List.getElem?_append_left (by omega)] at hp
      rw [List.getElem?_append_left hi] at hq
      exact .inl ⟨hp, hq⟩
    · have : i < (H ++ [o]).length := (List.getElem?_eq_some_iff.1 hq).1
      simp at this
      have e : i = H.length := by omega
      subst e
      rw [← hlen, List.getElem?_append_right (Nat.le_refl _)] at hp
      rw [List.getElem?_append_right (Nat.le_refl _)] at hq
      simp at hp hq
      exact .inr ⟨rfl, hp.symm, hq.symm⟩
  refine ⟨by simp [hlen], ?_, ?_, ?_, ?_⟩
  · intro i p q hp hq
    rcases old i p q hp hq with ⟨hp, hq⟩ | ⟨_, rfl, rfl⟩
    · have hob := h.obj i p q hp hq
      cases hr : p.real with
      | false => exact hob.virt hx hr
      | true =>
        cases hd : q.isDead with
        | true => cases q <;> first | (cases hd; done) | trivial
        | false => exact hob.ext hx (hold _ (real_lt hr hd hob))
    · exact ho
  · intro i j p q o1 o2 hp hq h1 h2 hm hd hpr hqr hij
    rcases old i p o1 hp h1 with ⟨hp', h1'⟩ | ⟨hi, rfl, rfl⟩ <;> rcases old j q o2 hq h2 with ⟨hq', h2'⟩ | ⟨hj, rfl, rfl⟩
    · exact h.inj i j p q o1 o2 hp' hq' h1' h2' hm hd hpr hqr hij
    · have := real_lt hpr (by cases o1 <;> first | rfl | cases hm) (h.obj i p o1 hp' h1'); have := hpl hqr; omega
    · have := real_lt hqr hd (h.obj j q o2 hq' h2'); have := hpl hpr; omega
    · omega
  · intro i p q hp hq hm hr
    rcases old i p q hp hq with ⟨hp, hq⟩ | ⟨_, rfl, rfl⟩
    · exact h.own i p q hp hq hm hr
    · right; have := hpl hr; have := h.kept.size; omega
  · refine ⟨hos.trans h.kept.os, htp.trans h.kept.tape, hou.trans h.kept.output, Nat.le_trans h.kept.size hsz, fun k hk he => ?_⟩
    exact (hold k (Nat.lt_of_lt_of_le hk h.kept.size)).trans (h.kept.block k hk he)

/-- A virtual row: no block, no turn of the world. -/
theorem HRel.virtual (h : HRel E w0 ρ H w) {pl : Pl} {o : AObj} (hpl : pl.real = false) (ho : ObjRel (ρ ++ [pl]) (H ++ [o]) w pl o) : HRel E w0 (ρ ++ [pl]) (H ++ [o]) w :=
  h.push rfl rfl rfl (Nat.le_refl _) (fun _ _ => rfl) (by simp [hpl]) ho

/-- Object number id is written: its block alone is another. -/
theorem HRel.set (h : HRel E w0 ρ H w) {id : Nat} {p : Pl} {o o' : AObj} (hp : ρ[id]? = some p) (ho : H[id]? = some o) (hm : o.mut = true) (hm' : o'.mut = true) (hr : p.real = true)
    (hos : w'.os = w.os) (htp : w'.tape = w.tape) (hou : w'.output = w.output) (hsz : w'.heap.size = w.heap.size) (hold : ∀ k, k ≠ p.blk → w'.heap[k]? = w.heap[k]?)
    (hn : ObjRel ρ (H.set id o') w' p o') : HRel E w0 ρ (H.set id o') w' := by
  have hd : o.isDead = false := by cases o <;> first | rfl | cases hm
  have hd' : o'.isDead = false := by cases o' <;> first | rfl | cases hm'
  have hx : Ext ρ H ρ (H.set id o') := Ext.set ho hd
  have get : ∀ (i : Nat) (q : AObj), (H.set id o')[i]? = some q → (i = id ∧ q = o') ∨ (i ≠ id ∧ H[i]? = some q) := by
    intro i q hq
    rw [List.getElem?_set] at hq
    split at hq
    · rename_i e; subst e; simp [(List.getElem?_eq_some_iff.1 ho).1] at hq; exact .inl ⟨rfl, hq.symm⟩
    · rename_i e; exact .inr ⟨fun e' => e e'.symm, hq⟩
  refine ⟨by simp [h.len], ?_, ?_, ?_, ?_⟩
  · intro i q x hq hx'
    rcases get i x hx' with ⟨rfl, rfl⟩ | ⟨hne, hi⟩
    · rw [hp] at hq; cases hq; exact hn
    · have hob := h.obj i q x hq hi
      cases hqr : q.real with
      | false => exact hob.virt hx hqr
      | true =>
        cases hxd : x.isDead with
        | true => cases x <;> first | (cases hxd; done) | trivial
        | false =>
          refine hob.ext hx (hold _ fun e => ?_)
          exact h.inj id i p q o x hp hq ho hi hm hxd hr hqr (fun e => hne e.symm) e.symm
  · intro i j q r o1 o2 hq hrr h1 h2 hmm hdd hqr hrr' hij
    have m1 : ∃ o1', H[i]? = some o1' ∧ o1'.mut = true := by
      rcases get i o1 h1 with ⟨rfl, rfl⟩ | ⟨_, h1'⟩
      · exact ⟨o, ho, hm⟩
      · exact ⟨o1, h1', hmm⟩
    have m2 : ∃ o2', H[j]? = some o2' ∧ o2'.isDead = false := by
      rcases get j o2 h2 with ⟨rfl, rfl⟩ | ⟨_, h2'⟩
      · exact ⟨o, ho, hd⟩
      · exact ⟨o2, h2', hdd⟩
    obtain ⟨o1', h1', hm1⟩ := m1
    obtain ⟨o2', h2', hd2⟩ := m2
    exact h.inj i j q r o1' o2' hq hrr h1' h2' hm1 hd2 hqr hrr' hij
  · intro i q x hq hx' hmx hqr
    rcases get i x hx' with ⟨rfl, rfl⟩ | ⟨_, hi⟩
    · rw [hp] at hq; cases hq; exact h.own i p o hp ho hm hr
    · exact h.own i q x hq hi hmx hqr
  · refine ⟨hos.trans h.kept.os, htp.trans h.kept.tape, hou.trans h.kept.output, by rw [hsz]; exact h.kept.size, fun k hk he => ?_⟩
    have hne : k ≠ p.blk := by
      rintro rfl
      rcases h.own id p o hp ho hm hr with h1 | h1
      · exact he h1
      · omega
    exact (hold k hne).trans (h.kept.block k hk he)

/-- An object is given up. -/
theorem HRel.kill (h : HRel E w0 ρ H w) (id : Nat) : HRel E w0 ρ (H.set id .dead) w := by
  have hx : Ext ρ H ρ (H.set id .dead) := Ext.kill
  have get : ∀ (i : Nat) (q : AObj), (H.set id .dead)[i]? = some q → q = .dead ∨ (i ≠ id ∧ H[i]? = some q) := by
    intro i q hq
    rw [List.getElem?_set] at hq
    split at hq
    · rename_i e
      split at hq
      · exact .inl (by simpa using hq.symm)
      · cases hq
    · rename_i e; exact .inr ⟨fun e' => e e'.symm, hq⟩
  refine ⟨by simp [h.len], ?_, ?_, ?_, h.kept⟩
  · intro i q x hq hx'
    rcases get i x hx' with rfl | ⟨hne, hi⟩
    · trivial
    · exact (h.obj i q x hq hi).ext hx rfl
  · intro i j q r o1 o2 hq hrr h1 h2 hmm hdd hqr hrr' hij
    rcases get i o1 h1 with rfl | ⟨_, h1'⟩
    · cases hmm
    rcases get j o2 h2 with rfl | ⟨_, h2'⟩
    · cases hdd
    exact h.inj i j q r o1 o2 hq hrr h1' h2' hmm hdd hqr hrr' hij
  · intro i q x hq hx' hmx hqr
    rcases get i x hx' with rfl | ⟨_, hi⟩
    · cases hmx
    · exact h.own i q x hq hi hmx hqr

/-- A mutable row is given up, and a new object takes its block over. -/
theorem HRel.take (h : HRel E w0 ρ H w) {id : Nat} {p pl : Pl} {o o' : AObj} (hp : ρ[id]? = some p) (ho : H[id]? = some o) (hm : o.mut = true) (hr : p.real = true) (hb : pl.blk = p.blk)
    (hos : w'.os = w.os) (htp : w'.tape = w.tape) (hou : w'.output = w.output) (hsz : w'.heap.size = w.heap.size) (hold : ∀ k, k ≠ p.blk → w'.heap[k]? = w.heap[k]?)
    (hn : ObjRel (ρ ++ [pl]) (H.set id .dead ++ [o']) w' pl o') : HRel E w0 (ρ ++ [pl]) (H.set id .dead ++ [o']) w' := by
  have hx : Ext ρ H (ρ ++ [pl]) (H.set id .dead ++ [o']) := Ext.kill.trans (Ext.push (by simp [h.len]) pl o')
  have hlen := h.len
  have old : ∀ (i : Nat) (q : Pl) (x : AObj), (ρ ++ [pl])[i]? = some q → (H.set id .dead ++ [o'])[i]? = some x → (x = .dead ∨ (i ≠ id ∧ ρ[i]? = some q ∧ H[i]? = some x)) ∨ (i = H.length ∧ q = pl ∧ x = o') := by
    intro i q x hq hx'
    by_cases hi : i < H.length
    · rw [List.getElem?_append_left (by omega)] at hq
      rw [List.getElem?_append_left (by simpa using hi), List.getElem?_set] at hx'
      left
      split at hx'
      · split at hx'
        · exact .inl (by simpa using hx'.symm)
        · cases hx'
      · rename_i e; exact .inr ⟨fun e' => e e'.symm, hq, hx'⟩
    · have : i < (H.set id .dead ++ [o']).length := (List.getElem?_eq_some_iff.1 hx').1
      simp at this
      have e : i = H.length := by omega
      subst e
      rw [← hlen, List.getElem?_append_right (Nat.le_refl _)] at hq
      rw [List.getElem?_append_right (by simp)] at hx'
      simp at hq hx'
      exact .inr ⟨rfl, hq.symm, hx'.symm⟩
  refine ⟨by simp [hlen], ?_, ?_, ?_, ?_⟩
  · intro i q x hq hx'
    rcases old i q x hq hx' with (rfl | ⟨hne, hq, hi⟩) | ⟨_, rfl, rfl⟩
    · trivial
    · have hob := h.obj i q x hq hi
      cases hqr : q.real with
      | false => exact hob.virt hx hqr
      | true =>
        cases hxd : x.isDead with
        | true => cases x <;> first | (cases hxd; done) | trivial
        | false =>
          refine hob.ext hx (hold _ fun e => ?_)
          exact h.inj id i p q o x hp hq ho hi hm hxd hr hqr (fun e => hne e.symm) e.symm
    · exact hn
  · intro i j q r o1 o2 hq hrr h1 h2 hmm hdd hqr hrr' hij
    rcases old i q o1 hq h1 with (rfl | ⟨hne, hq', h1'⟩) | ⟨hi, rfl, rfl⟩ <;> rcases old j r o2 hrr h2 with (rfl | ⟨hne2, hr2, h2'⟩) | ⟨hj, rfl, rfl⟩
    · cases hmm
    · cases hmm
    · cases hmm
    · cases hdd
    · exact h.inj i j q r o1 o2 hq' hr2 h1' h2' hmm hdd hqr hrr' hij
    · rw [hb]; exact h.inj i id q p o1 o hq' hp h1' ho hmm (by cases o <;> first | rfl | cases hm) hqr hr hne
    · cases hdd
    · rw [hb]; exact h.inj id j p r o o2 hp hr2 ho h2' hm hdd hr hrr' (fun e => hne2 e.symm)
    · omega
  · intro i q x hq hx' hmx hqr
    rcases old i q x hq hx' with (rfl | ⟨hne, hq, hi⟩) | ⟨_, rfl, rfl⟩
    · cases hmx
    · exact h.own i q x hq hi hmx hqr
    · rw [hb]; exact h.own id p o hp ho hm hr
  · refine ⟨hos.trans h.kept.os, htp.trans h.kept.tape, hou.trans h.kept.output, by rw [hsz]; exact h.kept.size, fun k hk he => ?_⟩
    have hne : k ≠ p.blk := by
      rintro rfl
      rcases h.own id p o hp ho hm hr with h1 | h1
      · exact he h1
      · omega
    exact (hold k hne).trans (h.kept.block k hk he)
end
end Go.Sx
