/-
  A verified symbolic executor for the model's Code: abstract atoms, an abstract heap, its relation to worlds, the executor (computed by the kernel along one path), and its soundness.
-/
import Derived.Tactics
import Derived.Deep.Quiet
import Derived.OrdersHeld
import Derived.Laws.AppendOwn
import Derived.Laws.OwnMore
import Derived.Laws.CopyRow
import Derived.KernelRfl
set_option linter.all false
namespace Go.Sx
open Go

/-! ### 1. Words -/
structure Pl where
  blk : Nat
  off : Nat
  cap : Nat
  real : Bool

inductive A where
  | raw (v : Value)
  | ptr (id off : Nat)
  | eptr (id sz : Nat) (i : Int) (f : Nat)
  | sl (id sz : Nat) (off : Option Int) (len : Int)
  | map (id : Nat)
  | fn (f : FuncId) (caps : List (Nat × Nat))
  | junk

inductive W where
  | at (a : A)
  | agg (as : List A)

inductive V where
  | at (a : A)
  | agg (as : List A)
  | tup (xs : List W)

def W.v : W → V
  | .at a => .at a
  | .agg as => .agg as

inductive Col where
  | int (k : IntKind) (l : List Int)
  | bool (l : List Bool)
  | str (l : List ByteArray)
  | ats (l : List A)

def Col.len : Col → Nat
  | .int _ l => l.length
  | .bool l => l.length
  | .str l => l.length
  | .ats l => l.length

def Col.at (c : Col) (i : Nat) : A :=
  match c with
  | .int k l => .raw (.int k (l.getD i 0))
  | .bool l => .raw (.bool (l.getD i false))
  | .str l => .raw (.string (l.getD i ByteArray.empty))
  | .ats l => l.getD i .junk

inductive AObj where
  | dead
  | cells (t : TypeId) (cs : List A)
  | row (e : TypeId) (sz : Nat) (n : Int) (cols : List Col)
  | ro (e : TypeId) (sz : Nat) (n : Int) (cols : List Col)
  | map (kt : IntKind) (ks : List Int) (col : Col)

abbrev Heap := List AObj

def AObj.isDead : AObj → Bool
  | .dead => true
  | _ => false
def AObj.mut : AObj → Bool
  | .dead | .ro .. => false
  | _ => true

def Pl.addr (p : Pl) (o : Nat) : Addr := ⟨p.blk, p.off + o, none⟩

def SlRel (p : Pl) (sz : Nat) (off len : Int) (u : Value) : Prop :=
  0 ≤ off ∧ 0 ≤ len ∧ off.toNat + len.toNat ≤ p.cap ∧
  ((p.real = true ∧ ∃ a, u = .slice (some a) len.toNat (p.cap - off.toNat) ∧ (p.cap - off.toNat ≠ 0 → a = p.addr (off.toNat * sz))) ∨
   (p.real = false ∧ p.cap = 0 ∧ u = .slice none 0 0))

/-- Object number id has been given up: what is said of atoms that name it says nothing. -/
def Gone (H : Heap) (id : Nat) : Prop := H[id]? = some AObj.dead

def ARel (ρ : List Pl) (H : Heap) : A → Value → Prop
  | .raw v, u => u = v
  | .ptr id off, u => Gone H id ∨ ∃ p, ρ[id]? = some p ∧ u = .pointer (some (p.addr off))
  | .eptr id sz i f, u => Gone H id ∨ ∃ p, ρ[id]? = some p ∧ u = .pointer (some (p.addr (i.toNat * sz + f)))
  | .sl id sz off len, u => Gone H id ∨ ∃ p, ρ[id]? = some p ∧ SlRel p sz (off.getD 0) len u
  | .map id, u => Gone H id ∨ ∃ p, ρ[id]? = some p ∧ u = .map (some p.blk)
  | .fn f caps, u => (∃ c ∈ caps, Gone H c.1) ∨ ∃ vs : List Value, u = .func (.func f) #[] vs.toArray ∧ vs.length = caps.length ∧
      ∀ (j : Nat) (c : Nat × Nat), caps[j]? = some c → ∃ p, ρ[c.1]? = some p ∧ vs[j]? = some (Value.pointer (some (p.addr c.2)))
  | .junk, _ => True

/-- Cells, one by one. -/
def AsRel (ρ : List Pl) (H : Heap) (as : List A) (vs : List Value) : Prop :=
  vs.length = as.length ∧ ∀ (j : Nat) (a : A) (v : Value), as[j]? = some a → vs[j]? = some v → ARel ρ H a v

def WRel (ρ : List Pl) (H : Heap) : W → Value → Prop
  | .at a, u => ARel ρ H a u
  | .agg as, u => ∃ vs : List Value, u = .agg vs.toArray ∧ AsRel ρ H as vs

def VRel (ρ : List Pl) (H : Heap) : V → Value → Prop
  | .at a, u => ARel ρ H a u
  | .agg as, u => ∃ vs : List Value, u = .agg vs.toArray ∧ AsRel ρ H as vs
  | .tup xs, u => ∃ vs : List Value, u = .tuple vs.toArray ∧ vs.length = xs.length ∧ ∀ (j : Nat) (x : W) (v : Value), xs[j]? = some x → vs[j]? = some v → WRel ρ H x v

def ColsRel (ρ : List Pl) (H : Heap) (p : Pl) (sz : Nat) (n : Int) (cols : List Col) (cur : Array Value) : Prop :=
  ∀ (i f : Nat) (c : Col), i < n.toNat → cols[f]? = some c → ∃ v, cur[p.off + i * sz + f]? = some v ∧ ARel ρ H (c.at i) v

def RowOk (p : Pl) (sz : Nat) (n : Int) (cols : List Col) : Prop :=
  0 ≤ n ∧ (∀ c ∈ cols, c.len = n.toNat) ∧ cols.length = sz ∧ 0 < sz ∧ n.toNat ≤ p.cap ∧ p.cap ≤ maxLen ∧ (p.real = false → p.cap = 0)

def ObjRel (ρ : List Pl) (H : Heap) (w : World) (p : Pl) : AObj → Prop
  | .dead => True
  | .cells t cs => p.real = true ∧ p.off = 0 ∧ ∃ cur : Array Value, w.heap[p.blk]? = some (.cells cur t (0, 0)) ∧ AsRel ρ H cs cur.toList
  | .row e sz n cols => RowOk p sz n cols ∧
      (p.real = true → ∃ cur, w.heap[p.blk]? = some (.cells cur e (0, 0)) ∧ p.off + p.cap * sz ≤ cur.size ∧ ColsRel ρ H p sz n cols cur)
  | .ro e sz n cols => RowOk p sz n cols ∧
      (p.real = true → ∃ cur t fz, w.heap[p.blk]? = some (.cells cur t fz) ∧ ColsRel ρ H p sz n cols cur)
  | .map kt ks col => p.real = true ∧ col.len = ks.length ∧ ∃ (es : Array MapEntry) (clock : Nat), w.heap[p.blk]? = some (.map es clock) ∧ es.size = ks.length ∧
      (∀ (i : Nat) (e : MapEntry), es[i]? = some e → e.key = .int kt (ks.getD i 0) ∧ ARel ρ H (col.at i) e.val ∧ e.born < clock) ∧
      (∀ (i j : Nat) (e f : MapEntry), es[i]? = some e → es[j]? = some f → e.born = f.born → i = j)

/-- What was there when the call began, but for the blocks of E, is as it was. -/
structure Kept (E : Nat → Prop) (w0 w : World) : Prop where
  os : w.os = w0.os
  tape : w.tape = w0.tape
  output : w.output = w0.output
  size : w0.heap.size ≤ w.heap.size
  block : ∀ k, k < w0.heap.size → ¬ E k → w.heap[k]? = w0.heap[k]?

/-- The world w holds the heap H, its objects lying at ρ. -/
structure HRel (E : Nat → Prop) (w0 : World) (ρ : List Pl) (H : Heap) (w : World) : Prop where
  len : ρ.length = H.length
  obj : ∀ (i : Nat) (p : Pl) (o : AObj), ρ[i]? = some p → H[i]? = some o → ObjRel ρ H w p o
  inj : ∀ (i j : Nat) (p q : Pl) (o o' : AObj), ρ[i]? = some p → ρ[j]? = some q → H[i]? = some o → H[j]? = some o' → o.mut = true → o'.isDead = false → p.real = true → q.real = true → i ≠ j → p.blk ≠ q.blk
  own : ∀ (i : Nat) (p : Pl) (o : AObj), ρ[i]? = some p → H[i]? = some o → o.mut = true → p.real = true → E p.blk ∨ w0.heap.size ≤ p.blk
  kept : Kept E w0 w

/-- The objects can be read. -/
structure HRead (ρ : List Pl) (H : Heap) (w : World) : Prop where
  len : ρ.length = H.length
  obj : ∀ (i : Nat) (p : Pl) (o : AObj), ρ[i]? = some p → H[i]? = some o → ObjRel ρ H w p o
theorem HRel.read {E : Nat → Prop} {w0 w : World} {ρ : List Pl} {H : Heap} (h : HRel E w0 ρ H w) : HRead ρ H w := ⟨h.len, h.obj⟩
theorem HRead.at {w : World} {ρ : List Pl} {H : Heap} (h : HRead ρ H w) {i : Nat} {o : AObj} (ho : H[i]? = some o) : ∃ p, ρ[i]? = some p ∧ ObjRel ρ H w p o := by
  have hi : i < H.length := (List.getElem?_eq_some_iff.1 ho).1
  have hi' : i < ρ.length := by rw [h.len]; exact hi
  exact ⟨ρ[i], List.getElem?_eq_getElem hi', h.obj i _ o (List.getElem?_eq_getElem hi') ho⟩

/-- Places are only added; what is given up stays so. -/
structure Ext (ρ : List Pl) (H : Heap) (ρ' : List Pl) (H' : Heap) : Prop where
  pl : ∀ (i : Nat) (p : Pl), ρ[i]? = some p → ρ'[i]? = some p
  gone : ∀ i, Gone H i → Gone H' i

section
variable {ρ ρ' ρ'' : List Pl} {H H' H'' : Heap}
theorem Ext.refl (ρ : List Pl) (H : Heap) : Ext ρ H ρ H := ⟨fun _ _ h => h, fun _ h => h⟩
theorem Ext.trans (h : Ext ρ H ρ' H') (k : Ext ρ' H' ρ'' H'') : Ext ρ H ρ'' H'' := ⟨fun i p e => k.pl i p (h.pl i p e), fun i e => k.gone i (h.gone i e)⟩

theorem ARel.ext (e : Ext ρ H ρ' H') {a : A} {u : Value} (h : ARel ρ H a u) : ARel ρ' H' a u := by
  cases a with
  | raw v => exact h
  | ptr id off => exact h.imp (e.gone id) fun ⟨p, hp, hu⟩ => ⟨p, e.pl _ _ hp, hu⟩
  | eptr id sz i f => exact h.imp (e.gone id) fun ⟨p, hp, hu⟩ => ⟨p, e.pl _ _ hp, hu⟩
  | sl id sz off len => exact h.imp (e.gone id) fun ⟨p, hp, hu⟩ => ⟨p, e.pl _ _ hp, hu⟩
  | map id => exact h.imp (e.gone id) fun ⟨p, hp, hu⟩ => ⟨p, e.pl _ _ hp, hu⟩
  | fn f caps =>
    refine h.imp (fun ⟨c, hc, hg⟩ => ⟨c, hc, e.gone _ hg⟩) fun ⟨vs, hu, hl, hv⟩ => ⟨vs, hu, hl, fun j c hc => ?_⟩
    obtain ⟨p, hp, hj⟩ := hv j c hc
    exact ⟨p, e.pl _ _ hp, hj⟩
  | junk => exact h
theorem AsRel.ext (e : Ext ρ H ρ' H') {as : List A} {vs : List Value} (h : AsRel ρ H as vs) : AsRel ρ' H' as vs :=
  ⟨h.1, fun j a v ha hv => (h.2 j a v ha hv).ext e⟩
theorem WRel.ext (e : Ext ρ H ρ' H') {x : W} {u : Value} (h : WRel ρ H x u) : WRel ρ' H' x u := by
  cases x with
  | «at» a => exact ARel.ext e h
  | agg as => obtain ⟨vs, hu, hv⟩ := h; exact ⟨vs, hu, hv.ext e⟩
theorem VRel.ext (e : Ext ρ H ρ' H') {x : V} {u : Value} (h : VRel ρ H x u) : VRel ρ' H' x u := by
  cases x with
  | «at» a => exact ARel.ext e h
  | agg as => obtain ⟨vs, hu, hv⟩ := h; exact ⟨vs, hu, hv.ext e⟩
  | tup xs => obtain ⟨vs, hu, hl, hv⟩ := h; exact ⟨vs, hu, hl, fun j x v hx hv' => (hv j x v hx hv').ext e⟩
theorem ColsRel.ext (e : Ext ρ H ρ' H') {p : Pl} {sz : Nat} {n : Int} {cols : List Col} {cur : Array Value} (h : ColsRel ρ H p sz n cols cur) : ColsRel ρ' H' p sz n cols cur :=
  fun i f c hi hc => let ⟨v, hv, ha⟩ := h i f c hi hc; ⟨v, hv, ha.ext e⟩
theorem ObjRel.ext (e : Ext ρ H ρ' H') {w w' : World} {p : Pl} {o : AObj} (hw : w'.heap[p.blk]? = w.heap[p.blk]?) (h : ObjRel ρ H w p o) : ObjRel ρ' H' w' p o := by
  cases o with
  | dead => trivial
  | cells t cs => obtain ⟨h1, h2, cur, h3, h4⟩ := h; exact ⟨h1, h2, cur, hw.trans h3, h4.ext e⟩
  | row t sz n cols => exact ⟨h.1, fun hr => let ⟨cur, h1, h2, h3⟩ := h.2 hr; ⟨cur, hw.trans h1, h2, h3.ext e⟩⟩
  | ro t sz n cols => exact ⟨h.1, fun hr => let ⟨cur, t, fz, h1, h3⟩ := h.2 hr; ⟨cur, t, fz, hw.trans h1, h3.ext e⟩⟩
  | map kt ks col =>
    obtain ⟨h1, h2, es, clock, h3, h4, h5, h6⟩ := h
    exact ⟨h1, h2, es, clock, hw.trans h3, h4, fun i x hx => ⟨(h5 i x hx).1, (h5 i x hx).2.1.ext e, (h5 i x hx).2.2⟩, h6⟩
/-- Virtual rows look at no block. -/
theorem ObjRel.virt (e : Ext ρ H ρ' H') {w w' : World} {p : Pl} {o : AObj} (hp : p.real = false) (h : ObjRel ρ H w p o) : ObjRel ρ' H' w' p o := by
  cases o with
  | dead => trivial
  | cells t cs => have h1 := h.1; rw [hp] at h1; cases h1
  | row t sz n cols => exact ⟨h.1, fun hr => by rw [hp] at hr; cases hr⟩
  | ro t sz n cols => exact ⟨h.1, fun hr => by rw [hp] at hr; cases hr⟩
  | map kt ks col => have h1 := h.1; rw [hp] at h1; cases h1

theorem Kept.refl (E : Nat → Prop) (w : World) : Kept E w w := ⟨rfl, rfl, rfl, Nat.le_refl _, fun _ _ _ => rfl⟩
theorem Kept.trans {E : Nat → Prop} {a b c : World} (h : Kept E a b) (k : Kept E b c) : Kept E a c :=
  ⟨k.os.trans h.os, k.tape.trans h.tape, k.output.trans h.output, Nat.le_trans h.size k.size, fun i hi he => (k.block i (Nat.lt_of_lt_of_le hi h.size) he).trans (h.block i hi he)⟩
theorem Kept.sameHeap {E : Nat → Prop} {a b c : World} (h : Kept E a b) (ho : c.os = b.os) (ht : c.tape = b.tape) (hu : c.output = b.output) (hh : c.heap = b.heap) : Kept E a c :=
  ⟨ho.trans h.os, ht.trans h.tape, hu.trans h.output, hh ▸ h.size, hh ▸ h.block⟩
theorem HRel.sameHeap {E : Nat → Prop} {w0 w w' : World} (h : HRel E w0 ρ H w) (ho : w'.os = w.os) (ht : w'.tape = w.tape) (hu : w'.output = w.output) (hh : w'.heap = w.heap) : HRel E w0 ρ H w' :=
  ⟨h.len, fun i p o hp hi => (h.obj i p o hp hi).ext (Ext.refl _ _) (by rw [hh]), h.inj, h.own, h.kept.sameHeap ho ht hu hh⟩
theorem HRel.drewN {E : Nat → Prop} {w0 w : World} (h : HRel E w0 ρ H w) (n : Nat) : HRel E w0 ρ H (w.drewN n) := h.sameHeap rfl rfl rfl rfl
theorem HRel.at {E : Nat → Prop} {w0 w : World} (h : HRel E w0 ρ H w) {i : Nat} {o : AObj} (ho : H[i]? = some o) : ∃ p, ρ[i]? = some p ∧ ObjRel ρ H w p o := by
  have hi : i < H.length := (List.getElem?_eq_some_iff.1 ho).1
  have hi' : i < ρ.length := by rw [h.len]; exact hi
  exact ⟨ρ[i], List.getElem?_eq_getElem hi', h.obj i _ o (List.getElem?_eq_getElem hi') ho⟩
end

/-! ### 2. The frame -/
def lk {α : Type} : List (Nat × α) → Nat → Option α
  | [], _ => none
  | (k, v) :: r, n => bif Nat.beq k n then some v else lk r n

abbrev Fr := List (Nat × V)

structure FRel (n : Nat) (ρ : List Pl) (H : Heap) (fr : Fr) (a : Act) : Prop where
  size : a.tmps.size = n
  defers : a.defers = []
  slot : ∀ t v, lk fr t = some v → VRel ρ H v (a.tmps.getD t undef)
  lt : ∀ t v, lk fr t = some v → t < n

theorem FRel.ext {n : Nat} {ρ ρ' : List Pl} {H H' : Heap} {fr : Fr} {a : Act} (e : Ext ρ H ρ' H') (h : FRel n ρ H fr a) : FRel n ρ' H' fr a :=
  ⟨h.size, h.defers, fun t v hl => (h.slot t v hl).ext e, h.lt⟩

def ev (fr : Fr) : Operand → V
  | .tmp t => (lk fr t).getD (.at .junk)
  | .const v => .at (.raw v)
  | .global g => .at (.raw (.pointer (some ⟨g, 0, none⟩)))
  | .func f => .at (.raw (.func (.func f) #[] #[]))

theorem ev_rel {n : Nat} {ρ : List Pl} {H : Heap} {fr : Fr} {a : Act} (h : FRel n ρ H fr a) (x : Operand) : VRel ρ H (ev fr x) (a.eval x) := by
  cases x with
  | tmp t =>
    simp only [ev, Act.eval]
    cases hl : lk fr t with
    | none => simp [VRel, ARel]
    | some v => exact h.slot t v hl
  | const v => simp [ev, Act.eval, VRel, ARel]
  | «global» g => simp [ev, Act.eval, VRel, ARel]
  | func f => simp [ev, Act.eval, VRel, ARel]

theorem FRel.put {n : Nat} {ρ : List Pl} {H : Heap} {fr : Fr} {a : Act} (h : FRel n ρ H fr a) {d : Nat} {v : V} {u : Value} (hd : d < n) (hv : VRel ρ H v u) :
    FRel n ρ H ((d, v) :: fr) (a.put (some d) u) := by
  refine ⟨by simp [Act.put, h.size], by simp [Act.put, h.defers], fun t v' hl => ?_, fun t v' hl => ?_⟩
  rotate_left
  · simp only [lk] at hl
    cases hb : Nat.beq d t with
    | true => rw [← Nat.eq_of_beq_eq_true hb]; exact hd
    | false => simp only [hb, cond_false] at hl; exact h.lt t v' hl
  simp only [lk] at hl
  cases hb : Nat.beq d t with
  | true =>
    have e : d = t := Nat.eq_of_beq_eq_true hb
    subst e
    simp only [hb, cond_true, Option.some.injEq] at hl
    subst hl
    simpa [Act.put, Array.getD, h.size, hd] using hv
  | false =>
    have e : d ≠ t := Nat.ne_of_beq_eq_false hb
    simp only [hb, cond_false] at hl
    have := h.slot t v' hl
    rw [show (a.put (some d) u).tmps.getD t undef = a.tmps.getD t undef from by simp [Act.put, Array.getD_eq_getD_getElem?, Array.getElem?_setIfInBounds, e]]
    exact this

end Go.Sx
