import Derived.Tactics
import Derived.Deep.Quiet
import Derived.OrdersHeld
import Derived.Laws.AppendOwn
import Derived.Laws.OwnMore
import Derived.Laws.CopyRow
import Derived.KernelRfl
import Derived.Laws.Small
import Derived.Laws.Strings
import Derived.Laws.Strings2
import Derived.Laws.Slices
import Derived.Laws.Pointers
import Derived.Laws.StructEq
import Derived.Laws.Cells
set_option linter.all false
namespace Go.Sx
open Go

/-! ### 1. Words -/
structure Pl where
  blk : Nat
  off : Nat
  cap : Nat
  real : Bool

inductive A where
  | raw (v : Value)
  | ptr (id off : Nat)
  | eptr (id sz : Nat) (i : Int) (f : Nat)
  | sl (id sz : Nat) (off : Option Int) (len : Int)
  | map (id : Nat)
  | fn (f : FuncId) (caps : List (Nat × Nat))
  | iface (t : TypeId) (id off : Nat)
  | junk

inductive W where
  | at (a : A)
  | agg (as : List A)

inductive V where
  | at (a : A)
  | agg (as : List A)
  | tup (xs : List W)

def W.v : W → V
  | .at a => .at a
  | .agg as => .agg as

inductive Col where
  | int (k : IntKind) (l : List Int)
  | bool (l : List Bool)
  | str (l : List ByteArray)
  | ats (l : List A)

def Col.len : Col → Nat
  | .int _ l => l.length
  | .bool l => l.length
  | .str l => l.length
  | .ats l => l.length

def Col.at (c : Col) (i : Nat) : A :=
  match c with
  | .int k l => .raw (.int k (l.getD i 0))
  | .bool l => .raw (.bool (l.getD i false))
  | .str l => .raw (.string (l.getD i ByteArray.empty))
  | .ats l => l.getD i .junk

inductive AObj where
  | dead
  | cells (t : TypeId) (cs : List A)
  | row (e : TypeId) (sz : Nat) (n : Int) (cols : List Col)
  | ro (e : TypeId) (sz : Nat) (n : Int) (cols : List Col)
  | map (kt : IntKind) (ks : List Int) (col : Col)

abbrev Heap := List AObj

def AObj.isDead : AObj → Bool
  | .dead => true
  | _ => false
def AObj.mut : AObj → Bool
  | .dead | .ro .. => false
  | _ => true

def Pl.addr (p : Pl) (o : Nat) : Addr := ⟨p.blk, p.off + o, none⟩

def SlRel (p : Pl) (sz : Nat) (off len : Int) (u : Value) : Prop :=
  0 ≤ off ∧ 0 ≤ len ∧ off.toNat + len.toNat ≤ p.cap ∧
  ((p.real = true ∧ ∃ a, u = .slice (some a) len.toNat (p.cap - off.toNat) ∧ (p.cap - off.toNat ≠ 0 → a = p.addr (off.toNat * sz))) ∨
   (p.real = false ∧ p.cap = 0 ∧ ∃ oa, u = .slice oa 0 0))

/-- Object number id has been given up: what is said of atoms that name it says nothing. -/
def Gone (H : Heap) (id : Nat) : Prop := H[id]? = some AObj.dead

def ARel (ρ : List Pl) (H : Heap) : A → Value → Prop
  | .raw v, u => u = v
  | .ptr id off, u => Gone H id ∨ ∃ p, ρ[id]? = some p ∧ u = .pointer (some (p.addr off))
  | .eptr id sz i f, u => Gone H id ∨ ∃ p, ρ[id]? = some p ∧ u = .pointer (some (p.addr (i.toNat * sz + f)))
  | .sl id sz off len, u => Gone H id ∨ ∃ p, ρ[id]? = some p ∧ SlRel p sz (off.getD 0) len u
  | .map id, u => Gone H id ∨ ∃ p, ρ[id]? = some p ∧ u = .map (some p.blk)
  | .fn f caps, u => (∃ c ∈ caps, Gone H c.1) ∨ ∃ vs : List Value, u = .func (.func f) #[] vs.toArray ∧ vs.length = caps.length ∧
      ∀ (j : Nat) (c : Nat × Nat), caps[j]? = some c → ∃ p, ρ[c.1]? = some p ∧ vs[j]? = some (Value.pointer (some (p.addr c.2)))
  | .iface t id off, u => Gone H id ∨ ∃ p, ρ[id]? = some p ∧ u = .iface t (.pointer (some (p.addr off)))
  | .junk, _ => True

/-- Cells, one by one. -/
def AsRel (ρ : List Pl) (H : Heap) (as : List A) (vs : List Value) : Prop :=
  vs.length = as.length ∧ ∀ (j : Nat) (a : A) (v : Value), as[j]? = some a → vs[j]? = some v → ARel ρ H a v

def WRel (ρ : List Pl) (H : Heap) : W → Value → Prop
  | .at a, u => ARel ρ H a u
  | .agg as, u => ∃ vs : List Value, u = .agg vs.toArray ∧ AsRel ρ H as vs

def VRel (ρ : List Pl) (H : Heap) : V → Value → Prop
  | .at a, u => ARel ρ H a u
  | .agg as, u => ∃ vs : List Value, u = .agg vs.toArray ∧ AsRel ρ H as vs
  | .tup xs, u => ∃ vs : List Value, u = .tuple vs.toArray ∧ vs.length = xs.length ∧ ∀ (j : Nat) (x : W) (v : Value), xs[j]? = some x → vs[j]? = some v → WRel ρ H x v

def ColsRel (ρ : List Pl) (H : Heap) (p : Pl) (sz : Nat) (n : Int) (cols : List Col) (cur : Array Value) : Prop :=
  ∀ (i f : Nat) (c : Col), i < n.toNat → cols[f]? = some c → ∃ v, cur[p.off + i * sz + f]? = some v ∧ ARel ρ H (c.at i) v

def RowOk (p : Pl) (sz : Nat) (n : Int) (cols : List Col) : Prop :=
  0 ≤ n ∧ (∀ c ∈ cols, c.len = n.toNat) ∧ cols.length = sz ∧ 0 < sz ∧ n.toNat ≤ p.cap ∧ p.cap ≤ maxLen ∧ (p.real = false → p.cap = 0)

def ObjRel (ρ : List Pl) (H : Heap) (w : World) (p : Pl) : AObj → Prop
  | .dead => True
  | .cells t cs => p.real = true ∧ p.off = 0 ∧ ∃ cur : Array Value, w.heap[p.blk]? = some (.cells cur t (0, 0)) ∧ AsRel ρ H cs cur.toList
  | .row e sz n cols => RowOk p sz n cols ∧
      (p.real = true → ∃ cur, w.heap[p.blk]? = some (.cells cur e (0, 0)) ∧ p.off + p.cap * sz ≤ cur.size ∧ ColsRel ρ H p sz n cols cur)
  | .ro e sz n cols => RowOk p sz n cols ∧
      (p.real = true → ∃ cur t fz, w.heap[p.blk]? = some (.cells cur t fz) ∧ ColsRel ρ H p sz n cols cur)
  | .map kt ks col => p.real = true ∧ col.len = ks.length ∧ ∃ (es : Array MapEntry) (clock : Nat), w.heap[p.blk]? = some (.map es clock) ∧ es.size = ks.length ∧
      (∀ (i : Nat) (e : MapEntry), es[i]? = some e → e.key = .int kt (ks.getD i 0) ∧ ARel ρ H (col.at i) e.val ∧ e.born < clock) ∧
      (∀ (i j : Nat) (e f : MapEntry), es[i]? = some e → es[j]? = some f → e.born = f.born → i = j)

/-- What was there when the call began, but for the blocks of E, is as it was. -/
structure Kept (E : Nat → Prop) (w0 w : World) : Prop where
  os : w.os = w0.os
  tape : w.tape = w0.tape
  output : w.output = w0.output
  size : w0.heap.size ≤ w.heap.size
  block : ∀ k, k < w0.heap.size → ¬ E k → w.heap[k]? = w0.heap[k]?

/-- The world w holds the heap H, its objects lying at ρ. -/
structure HRel (E : Nat → Prop) (w0 : World) (ρ : List Pl) (H : Heap) (w : World) : Prop where
  len : ρ.length = H.length
  obj : ∀ (i : Nat) (p : Pl) (o : AObj), ρ[i]? = some p → H[i]? = some o → ObjRel ρ H w p o
  inj : ∀ (i j : Nat) (p q : Pl) (o o' : AObj), ρ[i]? = some p → ρ[j]? = some q → H[i]? = some o → H[j]? = some o' → o.mut = true → o'.isDead = false → p.real = true → q.real = true → i ≠ j → p.blk ≠ q.blk
  own : ∀ (i : Nat) (p : Pl) (o : AObj), ρ[i]? = some p → H[i]? = some o → o.mut = true → p.real = true → E p.blk ∨ w0.heap.size ≤ p.blk
  kept : Kept E w0 w

/-- The objects can be read. -/
structure HRead (ρ : List Pl) (H : Heap) (w : World) : Prop where
  len : ρ.length = H.length
  obj : ∀ (i : Nat) (p : Pl) (o : AObj), ρ[i]? = some p → H[i]? = some o → ObjRel ρ H w p o
theorem HRel.read {E : Nat → Prop} {w0 w : World} {ρ : List Pl} {H : Heap} (h : HRel E w0 ρ H w) : HRead ρ H w := ⟨h.len, h.obj⟩
theorem HRead.at {w : World} {ρ : List Pl} {H : Heap} (h : HRead ρ H w) {i : Nat} {o : AObj} (ho : H[i]? = some o) : ∃ p, ρ[i]? = some p ∧ ObjRel ρ H w p o := by
  have hi : i < H.length := (List.getElem?_eq_some_iff.1 ho).1
  have hi' : i < ρ.length := by rw [h.len]; exact hi
  exact ⟨ρ[i], List.getElem?_eq_getElem hi', h.obj i _ o (List.getElem?_eq_getElem hi') ho⟩

/-- Places are only added; what is given up stays so. -/
structure Ext (ρ : List Pl) (H : Heap) (ρ' : List Pl) (H' : Heap) : Prop where
  pl : ∀ (i : Nat) (p : Pl), ρ[i]? = some p → ρ'[i]? = some p
  gone : ∀ i, Gone H i → Gone H' i

section
variable {ρ ρ' ρ'' : List Pl} {H H' H'' : Heap}
theorem Ext.refl (ρ : List Pl) (H : Heap) : Ext ρ H ρ H := ⟨fun _ _ h => h, fun _ h => h⟩
theorem Ext.trans (h : Ext ρ H ρ' H') (k : Ext ρ' H' ρ'' H'') : Ext ρ H ρ'' H'' := ⟨fun i p e => k.pl i p (h.pl i p e), fun i e => k.gone i (h.gone i e)⟩

theorem ARel.ext (e : Ext ρ H ρ' H') {a : A} {u : Value} (h : ARel ρ H a u) : ARel ρ' H' a u := by
  cases a with
  | raw v => exact h
  | ptr id off => exact h.imp (e.gone id) fun ⟨p, hp, hu⟩ => ⟨p, e.pl _ _ hp, hu⟩
  | eptr id sz i f => exact h.imp (e.gone id) fun ⟨p, hp, hu⟩ => ⟨p, e.pl _ _ hp, hu⟩
  | sl id sz off len => exact h.imp (e.gone id) fun ⟨p, hp, hu⟩ => ⟨p, e.pl _ _ hp, hu⟩
  | map id => exact h.imp (e.gone id) fun ⟨p, hp, hu⟩ => ⟨p, e.pl _ _ hp, hu⟩
  | fn f caps =>
    refine h.imp (fun ⟨c, hc, hg⟩ => ⟨c, hc, e.gone _ hg⟩) fun ⟨vs, hu, hl, hv⟩ => ⟨vs, hu, hl, fun j c hc => ?_⟩
    obtain ⟨p, hp, hj⟩ := hv j c hc
    exact ⟨p, e.pl _ _ hp, hj⟩
  | iface t id off => exact h.imp (e.gone id) fun ⟨p, hp, hu⟩ => ⟨p, e.pl _ _ hp, hu⟩
  | junk => exact h
theorem AsRel.ext (e : Ext ρ H ρ' H') {as : List A} {vs : List Value} (h : AsRel ρ H as vs) : AsRel ρ' H' as vs :=
  ⟨h.1, fun j a v ha hv => (h.2 j a v ha hv).ext e⟩
theorem WRel.ext (e : Ext ρ H ρ' H') {x : W} {u : Value} (h : WRel ρ H x u) : WRel ρ' H' x u := by
  cases x with
  | «at» a => exact ARel.ext e h
  | agg as => obtain ⟨vs, hu, hv⟩ := h; exact ⟨vs, hu, hv.ext e⟩
theorem VRel.ext (e : Ext ρ H ρ' H') {x : V} {u : Value} (h : VRel ρ H x u) : VRel ρ' H' x u := by
  cases x with
  | «at» a => exact ARel.ext e h
  | agg as => obtain ⟨vs, hu, hv⟩ := h; exact ⟨vs, hu, hv.ext e⟩
  | tup xs => obtain ⟨vs, hu, hl, hv⟩ := h; exact ⟨vs, hu, hl, fun j x v hx hv' => (hv j x v hx hv').ext e⟩
theorem ColsRel.ext (e : Ext ρ H ρ' H') {p : Pl} {sz : Nat} {n : Int} {cols : List Col} {cur : Array Value} (h : ColsRel ρ H p sz n cols cur) : ColsRel ρ' H' p sz n cols cur :=
  fun i f c hi hc => let ⟨v, hv, ha⟩ := h i f c hi hc; ⟨v, hv, ha.ext e⟩
theorem ObjRel.ext (e : Ext ρ H ρ' H') {w w' : World} {p : Pl} {o : AObj} (hw : w'.heap[p.blk]? = w.heap[p.blk]?) (h : ObjRel ρ H w p o) : ObjRel ρ' H' w' p o := by
  cases o with
  | dead => trivial
  | cells t cs => obtain ⟨h1, h2, cur, h3, h4⟩ := h; exact ⟨h1, h2, cur, hw.trans h3, h4.ext e⟩
  | row t sz n cols => exact ⟨h.1, fun hr => let ⟨cur, h1, h2, h3⟩ := h.2 hr; ⟨cur, hw.trans h1, h2, h3.ext e⟩⟩
  | ro t sz n cols => exact ⟨h.1, fun hr => let ⟨cur, t, fz, h1, h3⟩ := h.2 hr; ⟨cur, t, fz, hw.trans h1, h3.ext e⟩⟩
  | map kt ks col =>
    obtain ⟨h1, h2, es, clock, h3, h4, h5, h6⟩ := h
    exact ⟨h1, h2, es, clock, hw.trans h3, h4, fun i x hx => ⟨(h5 i x hx).1, (h5 i x hx).2.1.ext e, (h5 i x hx).2.2⟩, h6⟩
/-- Virtual rows look at no block. -/
theorem ObjRel.virt (e : Ext ρ H ρ' H') {w w' : World} {p : Pl} {o : AObj} (hp : p.real = false) (h : ObjRel ρ H w p o) : ObjRel ρ' H' w' p o := by
  cases o with
  | dead => trivial
  | cells t cs => have h1 := h.1; rw [hp] at h1; cases h1
  | row t sz n cols => exact ⟨h.1, fun hr => by rw [hp] at hr; cases hr⟩
  | ro t sz n cols => exact ⟨h.1, fun hr => by rw [hp] at hr; cases hr⟩
  | map kt ks col => have h1 := h.1; rw [hp] at h1; cases h1

theorem Kept.refl (E : Nat → Prop) (w : World) : Kept E w w := ⟨rfl, rfl, rfl, Nat.le_refl _, fun _ _ _ => rfl⟩
theorem Kept.trans {E : Nat → Prop} {a b c : World} (h : Kept E a b) (k : Kept E b c) : Kept E a c :=
  ⟨k.os.trans h.os, k.tape.trans h.tape, k.output.trans h.output, Nat.le_trans h.size k.size, fun i hi he => (k.block i (Nat.lt_of_lt_of_le hi h.size) he).trans (h.block i hi he)⟩
theorem Kept.sameHeap {E : Nat → Prop} {a b c : World} (h : Kept E a b) (ho : c.os = b.os) (ht : c.tape = b.tape) (hu : c.output = b.output) (hh : c.heap = b.heap) : Kept E a c :=
  ⟨ho.trans h.os, ht.trans h.tape, hu.trans h.output, hh ▸ h.size, hh ▸ h.block⟩
theorem HRel.sameHeap {E : Nat → Prop} {w0 w w' : World} (h : HRel E w0 ρ H w) (ho : w'.os = w.os) (ht : w'.tape = w.tape) (hu : w'.output = w.output) (hh : w'.heap = w.heap) : HRel E w0 ρ H w' :=
  ⟨h.len, fun i p o hp hi => (h.obj i p o hp hi).ext (Ext.refl _ _) (by rw [hh]), h.inj, h.own, h.kept.sameHeap ho ht hu hh⟩
theorem HRel.drewN {E : Nat → Prop} {w0 w : World} (h : HRel E w0 ρ H w) (n : Nat) : HRel E w0 ρ H (w.drewN n) := h.sameHeap rfl rfl rfl rfl
theorem HRel.at {E : Nat → Prop} {w0 w : World} (h : HRel E w0 ρ H w) {i : Nat} {o : AObj} (ho : H[i]? = some o) : ∃ p, ρ[i]? = some p ∧ ObjRel ρ H w p o := by
  have hi : i < H.length := (List.getElem?_eq_some_iff.1 ho).1
  have hi' : i < ρ.length := by rw [h.len]; exact hi
  exact ⟨ρ[i], List.getElem?_eq_getElem hi', h.obj i _ o (List.getElem?_eq_getElem hi') ho⟩
end

/-! ### 2. The frame -/
def lk {α : Type} : List (Nat × α) → Nat → Option α
  | [], _ => none
  | (k, v) :: r, n => bif Nat.beq k n then some v else lk r n

abbrev Fr := List (Nat × V)

structure FRel (n : Nat) (ρ : List Pl) (H : Heap) (fr : Fr) (a : Act) : Prop where
  size : a.tmps.size = n
  defers : a.defers = []
  slot : ∀ t v, lk fr t = some v → VRel ρ H v (a.tmps.getD t undef)
  lt : ∀ t v, lk fr t = some v → t < n

theorem FRel.ext {n : Nat} {ρ ρ' : List Pl} {H H' : Heap} {fr : Fr} {a : Act} (e : Ext ρ H ρ' H') (h : FRel n ρ H fr a) : FRel n ρ' H' fr a :=
  ⟨h.size, h.defers, fun t v hl => (h.slot t v hl).ext e, h.lt⟩

def ev (fr : Fr) : Operand → V
  | .tmp t => (lk fr t).getD (.at .junk)
  | .const v => .at (.raw v)
  | .global g => .at (.raw (.pointer (some ⟨g, 0, none⟩)))
  | .func f => .at (.raw (.func (.func f) #[] #[]))

theorem ev_rel {n : Nat} {ρ : List Pl} {H : Heap} {fr : Fr} {a : Act} (h : FRel n ρ H fr a) (x : Operand) : VRel ρ H (ev fr x) (a.eval x) := by
  cases x with
  | tmp t =>
    simp only [ev, Act.eval]
    cases hl : lk fr t with
    | none => simp [VRel, ARel]
    | some v => exact h.slot t v hl
  | const v => simp [ev, Act.eval, VRel, ARel]
  | «global» g => simp [ev, Act.eval, VRel, ARel]
  | func f => simp [ev, Act.eval, VRel, ARel]

theorem FRel.put {n : Nat} {ρ : List Pl} {H : Heap} {fr : Fr} {a : Act} (h : FRel n ρ H fr a) {d : Nat} {v : V} {u : Value} (hd : d < n) (hv : VRel ρ H v u) :
    FRel n ρ H ((d, v) :: fr) (a.put (some d) u) := by
  refine ⟨by simp [Act.put, h.size], by simp [Act.put, h.defers], fun t v' hl => ?_, fun t v' hl => ?_⟩
  rotate_left
  · simp only [lk] at hl
    cases hb : Nat.beq d t with
    | true => rw [← Nat.eq_of_beq_eq_true hb]; exact hd
    | false => simp only [hb, cond_false] at hl; exact h.lt t v' hl
  simp only [lk] at hl
  cases hb : Nat.beq d t with
  | true =>
    have e : d = t := Nat.eq_of_beq_eq_true hb
    subst e
    simp only [hb, cond_true, Option.some.injEq] at hl
    subst hl
    simpa [Act.put, Array.getD, h.size, hd] using hv
  | false =>
    have e : d ≠ t := Nat.ne_of_beq_eq_false hb
    simp only [hb, cond_false] at hl
    have := h.slot t v' hl
    rw [show (a.put (some d) u).tmps.getD t undef = a.tmps.getD t undef from by simp [Act.put, Array.getD_eq_getD_getElem?, Array.getElem?_setIfInBounds, e]]
    exact this

end Go.Sx

namespace Go.Sx
open Go

inductive TK where
  | int (k : IntKind)
  | bool
  | str
  | ptr (e : Nat)
  | sl (e : Nat)
  | map (k e : Nat)
  | st (fs : List (Nat × Nat))
  | arr (n e : Nat)
  | func
  | iface
  | other

structure TI where
  kind : TK
  size : Nat
  bytes : Nat
  zero : List Value

def TK.isAgg : TK → Option Bool
  | .st _ | .arr _ _ => some true
  | .other => none
  | _ => some false

def TK.ok (P : Program) (t : Nat) : TK → Prop
  | .int k => P.underlying t = some (.int k)
  | .bool => P.underlying t = some .bool
  | .str => P.underlying t = some .string
  | .ptr e => P.underlying t = some (.pointer e)
  | .sl e => P.underlying t = some (.slice e)
  | .map k e => P.underlying t = some (.map k e)
  | .st fs => ∃ F, P.underlying t = some (.struct F) ∧ F.toList.map (fun f => (f.offset, f.type)) = fs
  | .arr n e => P.underlying t = some (.array n e)
  | .func => ∃ a b c, P.underlying t = some (.func a b c)
  | .iface => ∃ ms, P.underlying t = some (.interface ms)
  | .other => True

structure TiOk (P : Program) (t : Nat) (ti : TI) : Prop where
  kind : ti.kind.ok P t
  parts : ∃ i z, P.info? t = some i ∧ i.size = ti.size ∧ i.bytes = ti.bytes ∧ i.zero = some z ∧ z.cells.toList = ti.zero ∧ (ti.kind.isAgg = some false → ti.zero = [z])

theorem TiOk.mk' {P : Program} {t : Nat} {ti : TI} {z : Value} (hk : ti.kind.ok P t) (h : (P.info? t).map (fun i => (i.size, i.bytes, i.zero)) = some (ti.size, ti.bytes, some z)) (hz : z.cells.toList = ti.zero) (h1 : ti.kind.isAgg = some false → ti.zero = [z]) : TiOk P t ti := by
  refine ⟨hk, ?_⟩
  cases hi : P.info? t with
  | none => rw [hi] at h; cases h
  | some i =>
    rw [hi] at h
    simp only [Option.map_some, Option.some.injEq, Prod.mk.injEq] at h
    exact ⟨i, z, rfl, h.1, h.2.1, h.2.2, hz, h1⟩

abbrev Tab := List (Nat × TI)
def TabOk (P : Program) (tl : Tab) : Prop := ∀ t ti, lk tl t = some ti → TiOk P t ti
theorem TabOk.nil {P : Program} : TabOk P [] := fun t ti h => by cases h
theorem TabOk.cons {P : Program} {t : Nat} {ti : TI} {tl : Tab} (h : TiOk P t ti) (hs : TabOk P tl) : TabOk P ((t, ti) :: tl) := by
  intro t' ti' hl
  simp only [lk] at hl
  cases hb : Nat.beq t t' with
  | true =>
    have e : t = t' := Nat.eq_of_beq_eq_true hb
    subst e
    simp only [hb, cond_true, Option.some.injEq] at hl
    subst hl; exact h
  | false =>
    simp only [hb, cond_false] at hl
    exact hs t' ti' hl

section
variable {P : Program}
theorem TiOk.size_run {t : Nat} {ti : TI} (h : TiOk P t ti) (w : World) : (sizeOf t).run P w = .ok ti.size w := by
  obtain ⟨i, z, hi, hs, _⟩ := h.parts
  simp [sizeOf, typeInfo, hi, hs]
theorem TiOk.isAgg_run {t : Nat} {ti : TI} (h : TiOk P t ti) {b : Bool} (hb : ti.kind.isAgg = some b) (w : World) : (Go.isAgg t).run P w = .ok b w := by
  have hk := h.kind
  unfold Go.isAgg
  cases hc : ti.kind with
  | st fs => rw [hc] at hk hb; obtain ⟨F, hF, _⟩ := hk; simp only [TK.isAgg, Option.some.injEq] at hb; subst hb; simp [run_underlying hF]
  | arr n e => rw [hc] at hk hb; simp only [TK.isAgg, Option.some.injEq] at hb; subst hb; simp only [TK.ok] at hk; simp [run_underlying hk]
  | other => rw [hc] at hb; cases hb
  | func => rw [hc] at hk hb; obtain ⟨x, y, z, hF⟩ := hk; simp only [TK.isAgg, Option.some.injEq] at hb; subst hb; simp [run_underlying hF]
  | iface => rw [hc] at hk hb; obtain ⟨ms, hF⟩ := hk; simp only [TK.isAgg, Option.some.injEq] at hb; subst hb; simp [run_underlying hF]
  | int k => rw [hc] at hk hb; simp only [TK.isAgg, Option.some.injEq] at hb; subst hb; simp only [TK.ok] at hk; simp [run_underlying hk]
  | bool => rw [hc] at hk hb; simp only [TK.isAgg, Option.some.injEq] at hb; subst hb; simp only [TK.ok] at hk; simp [run_underlying hk]
  | str => rw [hc] at hk hb; simp only [TK.isAgg, Option.some.injEq] at hb; subst hb; simp only [TK.ok] at hk; simp [run_underlying hk]
  | ptr e => rw [hc] at hk hb; simp only [TK.isAgg, Option.some.injEq] at hb; subst hb; simp only [TK.ok] at hk; simp [run_underlying hk]
  | sl e => rw [hc] at hk hb; simp only [TK.isAgg, Option.some.injEq] at hb; subst hb; simp only [TK.ok] at hk; simp [run_underlying hk]
  | map k e => rw [hc] at hk hb; simp only [TK.isAgg, Option.some.injEq] at hb; subst hb; simp only [TK.ok] at hk; simp [run_underlying hk]
end

/-! ### Arithmetic, as the executor writes it -/
def addI (k : IntKind) (a b : Int) : Int := k.wrap (a + b)
def subI (k : IntKind) (a b : Int) : Int := k.wrap (a - b)
def mulI (k : IntKind) (a b : Int) : Int := k.wrap (a * b)
def quoI (k : IntKind) (a b : Int) : Int := k.wrap (a.tdiv b)
def remI (_k : IntKind) (a b : Int) : Int := a.tmod b
def andI (k : IntKind) (a b : Int) : Int := k.wrap ((BitVec.ofInt k.bits a &&& BitVec.ofInt k.bits b).toNat : Int)
def orI (k : IntKind) (a b : Int) : Int := k.wrap ((BitVec.ofInt k.bits a ||| BitVec.ofInt k.bits b).toNat : Int)
def xorI (k : IntKind) (a b : Int) : Int := k.wrap ((BitVec.ofInt k.bits a ^^^ BitVec.ofInt k.bits b).toNat : Int)
def andNotI (k : IntKind) (a b : Int) : Int := k.wrap ((BitVec.ofInt k.bits a &&& ~~~ BitVec.ofInt k.bits b).toNat : Int)
def shlI (k : IntKind) (a b : Int) : Int := k.wrap (a * 2 ^ (min b.toNat k.bits))
def shrI (k : IntKind) (a b : Int) : Int := a.fdiv (2 ^ (min b.toNat k.bits))
def maxI (a b : Int) : Int := if b > a then b else a
def minI (a b : Int) : Int := if b < a then b else a

/-- Two plain values under an operator: the value, and what must hold. -/
def binR (op : BinOp) (x y : Value) : Option (Value × Bool) :=
  match x, y with
  | .int k a, .int k' b =>
    match op with
    | .shl => some (.int k (shlI k a b), decide (0 ≤ b))
    | .shr => some (.int k (shrI k a b), decide (0 ≤ b))
    | .add => bif decide (k = k') then some (.int k (addI k a b), true) else none
    | .sub => bif decide (k = k') then some (.int k (subI k a b), true) else none
    | .mul => bif decide (k = k') then some (.int k (mulI k a b), true) else none
    | .quo => bif decide (k = k') then some (.int k (quoI k a b), decide (b ≠ 0)) else none
    | .rem => bif decide (k = k') then some (.int k (remI k a b), decide (b ≠ 0)) else none
    | .and => bif decide (k = k') then some (.int k (andI k a b), true) else none
    | .or => bif decide (k = k') then some (.int k (orI k a b), true) else none
    | .xor => bif decide (k = k') then some (.int k (xorI k a b), true) else none
    | .andNot => bif decide (k = k') then some (.int k (andNotI k a b), true) else none
    | .eql => bif decide (k = k') then some (.bool (a == b), true) else none
    | .neq => bif decide (k = k') then some (.bool (a != b), true) else none
    | .lss => bif decide (k = k') then some (.bool (decide (a < b)), true) else none
    | .leq => bif decide (k = k') then some (.bool (decide (a ≤ b)), true) else none
    | .gtr => bif decide (k = k') then some (.bool (decide (a > b)), true) else none
    | .geq => bif decide (k = k') then some (.bool (decide (a ≥ b)), true) else none
  | .string a, .string b =>
    match op with
    | .add => some (.string (a ++ b), Nat.ble (a.size + b.size) 9223372036854775807)
    | .eql => some (.bool (a == b), true)
    | .neq => some (.bool (!(a == b)), true)
    | _ => none
  | _, _ => none

theorem binR_run {P : Program} {op : BinOp} {x y v : Value} {c : Bool} (h : binR op x y = some (v, c)) (hc : c = true) (t : TypeId) (ox oy : Operand) (w : World) :
    (do eqGuard op t ox oy x y; binOp op t x y : Sem Value).run P w = .ok v w := by
  unfold binR at h
  split at h
  · rename_i k a k' b
    have hg : eqGuard op t ox oy (.int k a) (.int k' b) = pure () := eqGuard_at_int ..
    rw [hg]
    simp only [Sem.run_bind, Sem.run_pure, Result.andThen_ok]
    cases op
    case shl | shr =>
      simp only [Option.some.injEq, Prod.mk.injEq] at h
      obtain ⟨rfl, rfl⟩ := h
      simp [binOp, Op.shift, shlI, shrI, Int.not_lt.2 (of_decide_eq_true hc)]
    all_goals
      by_cases hk : k = k'
      · subst hk
        simp only [decide_true, cond_true, Option.some.injEq, Prod.mk.injEq] at h
        obtain ⟨rfl, rfl⟩ := h
        simp [binOp, Op.intArith, Op.intDiv, Op.intBits, Op.intCmp, addI, subI, mulI, quoI, remI, andI, orI, xorI, andNotI] <;> exact fun h0 => absurd h0 (of_decide_eq_true hc)
      · simp [hk] at h
  · rename_i a b
    have hg : eqGuard op t ox oy (.string a) (.string b) = pure () := eqGuard_at_string ..
    rw [hg]
    simp only [Sem.run_bind, Sem.run_pure, Result.andThen_ok]
    cases op <;> simp only [Option.some.injEq, Prod.mk.injEq] at h <;> first
      | (cases h; done)
      | (obtain ⟨rfl, rfl⟩ := h; simp [binOp, Op.stringOp, beq_toListBytes] <;> exact (by have := Nat.le_of_ble_eq_true hc; omega))
  · cases h

end Go.Sx

namespace Go.Sx
open Go

def QRun (P : Program) (o : Oper) (a : Act) (w : World) (u : Value) : Prop := (execOp a.eval o).run P w = .ok (.value u) w

/-- The blocks of these objects are the same. -/
def HSame (ρ : List Pl) (H : Heap) (ids : List Nat) (w w' : World) : Prop := ∀ i ∈ ids, ∀ (p : Pl) (o : AObj), ρ[i]? = some p → H[i]? = some o → o.isDead = false → p.real = true → w'.heap[p.blk]? = w.heap[p.blk]?
theorem HSame.of_heap {ρ : List Pl} {H : Heap} {ids : List Nat} {w w' : World} (h : w'.heap = w.heap) : HSame ρ H ids w w' := fun _ _ _ _ _ _ _ _ => by rw [h]
/-- The object that a value leads to. -/
def idsV : V → List Nat
  | .at (.ptr id _) => [id]
  | .at (.eptr id _ _ _) => [id]
  | .at (.sl id _ _ _) => [id]
  | .at (.map id) => [id]
  | _ => []
def NOk (P : Program) (ρ : List Pl) (H : Heap) (ids : List Nat) (o : Oper) (a : Act) (w : World) (v : V) : Prop :=
  ∃ u, VRel ρ H v u ∧ ∀ w' : World, HSame ρ H ids w w' → QRun P o a w' u

theorem cell_at {w : World} {p : Pl} {cur : Array Value} {t : TypeId} {fz : Nat × Nat} (h : w.heap[p.blk]? = some (.cells cur t fz)) (k : Nat) : w.cell? (p.addr k) = cur[p.off + k]? := by
  simp [World.cell?, Pl.addr, h]
theorem addr_add (p : Pl) (k j : Nat) : (p.addr k).add j = p.addr (k + j) := by
  unfold Pl.addr Addr.add
  split <;> simp_all [Nat.add_assoc]

/-- A list of columns, read at one element. -/
def colsAt (cs : List Col) (i : Nat) : List A := cs.map (·.at i)

/-- The whole numbers of one kind that stand ahead. -/
def intRun : List A → Option (IntKind × List Int)
  | .raw (.int k n) :: r => match intRun r with
    | some (k', l) => bif decide (k' = k) then some (k, n :: l) else some (k, [n])
    | none => some (k, [n])
  | _ => none
theorem intRun_at : ∀ {cs : List A} {k : IntKind} {l : List Int}, intRun cs = some (k, l) → ∀ j, j < l.length → cs[j]? = some (.raw (.int k (l.getD j 0)))
  | .raw (.int k n) :: r, k2, l, h, j, hj => by
    simp only [intRun] at h
    have one (h : some (k, [n]) = some (k2, l)) : (A.raw (.int k n) :: r)[j]? = some (.raw (.int k2 (l.getD j 0))) := by
      cases h
      obtain rfl : j = 0 := by simpa using hj
      rfl
    split at h
    · rename_i k' l' hr
      by_cases hk : k' = k
      · subst hk
        simp only [decide_true, cond_true, Option.some.injEq, Prod.mk.injEq] at h
        obtain ⟨rfl, rfl⟩ := h
        cases j with
        | zero => rfl
        | succ j =>
          have := intRun_at hr j (by simpa using hj)
          simpa using this
      · simp only [hk, decide_false, cond_false] at h
        exact one h
    · exact one h
  | [], _, _, h, _, _ => by simp [intRun] at h

def nLoad (tl : Tab) (H : Heap) (t : TypeId) (x : V) : Option (V × Bool) :=
  match lk tl t with
  | none => none
  | some ti =>
    match x with
    | .at (.ptr id off) =>
      match H[id]? with
      | some (.cells _ cs) =>
        match ti.kind.isAgg with
        | some false => match cs[off]? with | some a => some (.at a, true) | none => none
        | some true => bif Nat.ble (off + ti.size) cs.length then some (.agg ((cs.drop off).take ti.size), true) else none
        | none => none
      | _ => none
    | .at (.eptr id sz i f) =>
      match H[id]? with
      | some (.row _ sz' n cols) | some (.ro _ sz' n cols) =>
        bif Nat.beq sz sz' then
          match ti.kind.isAgg with
          | some false => match cols[f]? with | some c => some (.at (c.at i.toNat), decide (0 ≤ i ∧ i < n)) | none => none
          | some true => bif Nat.ble (f + ti.size) cols.length then some (.agg (colsAt ((cols.drop f).take ti.size) i.toNat), decide (0 ≤ i ∧ i < n)) else none
          | none => none
        else none
      | some (.cells _ cs) =>
        match ti.kind.isAgg, intRun (cs.drop f) with
        | some false, some (k, l) => bif Nat.beq sz 1 then some (.at (.raw (.int k (l.getD i.toNat 0))), decide (0 ≤ i ∧ i < (l.length : Int))) else none
        | _, _ => none
      | _ => none
    | _ => none

section
variable {P : Program} {E : Nat → Prop} {w0 w : World} {ρ : List Pl} {H : Heap}

theorem loadVar_one {t : TypeId} {ti : TI} (ht : TiOk P t ti) (hk : ti.kind.isAgg = some false) {a : Addr} {u : Value} {w' : World} (hc : w'.cell? a = some u) :
    (Instr.loadAt t (.pointer (some a))).run P w' = .ok u w' := by
  simp [Instr.loadAt, Instr.sureAddr, loadVar, ht.isAgg_run hk, hc]
theorem loadVar_agg {t : TypeId} {ti : TI} (ht : TiOk P t ti) (hk : ti.kind.isAgg = some true) {a : Addr} {vs : List Value} {w' : World} (hl : vs.length = ti.size) (hc : ∀ j v, vs[j]? = some v → w'.cell? (a.add j) = some v) :
    (Instr.loadAt t (.pointer (some a))).run P w' = .ok (.agg vs.toArray) w' := by
  have := run_loadCells_list (P := P) w' a vs hc
  rw [hl] at this
  simp [Instr.loadAt, Instr.sureAddr, loadVar, ht.isAgg_run hk, ht.size_run, this]

theorem AsRel.get {as : List A} {vs : List Value} (h : AsRel ρ H as vs) {j : Nat} {a : A} (ha : as[j]? = some a) : ∃ v, vs[j]? = some v ∧ ARel ρ H a v := by
  have hj : j < vs.length := by rw [h.1]; exact (List.getElem?_eq_some_iff.1 ha).1
  exact ⟨vs[j], List.getElem?_eq_getElem hj, h.2 j a _ ha (List.getElem?_eq_getElem hj)⟩
theorem AsRel.part {as : List A} {vs : List Value} (h : AsRel ρ H as vs) (o n : Nat) : AsRel ρ H ((as.drop o).take n) ((vs.drop o).take n) := by
  refine ⟨by simp [h.1], fun j a v ha hv => ?_⟩
  simp only [List.getElem?_take, List.getElem?_drop] at ha hv
  split at ha
  · rename_i hj; simp only [hj, if_true] at hv; exact h.2 _ a v ha hv
  · cases ha

theorem nLoad_ok {tl : Tab} (htl : TabOk P tl) (hr : HRead ρ H w) {t : TypeId} {x v : V} {u : Value} {c : Bool} (h : nLoad tl H t x = some (v, c)) (hc : c = true) (hx : VRel ρ H x u) :
    ∃ y, VRel ρ H v y ∧ ∀ w' : World, HSame ρ H (idsV x) w w' → (Instr.loadAt t u).run P w' = .ok y w' := by
  unfold nLoad at h
  cases hti : lk tl t with
  | none => rw [hti] at h; cases h
  | some ti =>
    rw [hti] at h
    simp only at h
    have ht := htl t ti hti
    split at h
    · rename_i id off
      split at h
      · rename_i tt cs hid
        obtain ⟨p, hp, h1, h2, cur, h3, h4⟩ := hr.at hid
        have hg : u = .pointer (some (p.addr off)) := by
          rcases hx with hx | ⟨q, hq, hx⟩
          · rw [Gone, hid] at hx; cases hx
          · rw [hp] at hq; cases hq; exact hx
        subst hg
        split at h
        · rename_i hk
          split at h
          · rename_i a ha
            simp only [Option.some.injEq, Prod.mk.injEq] at h
            obtain ⟨rfl, rfl⟩ := h
            obtain ⟨y, hy, hya⟩ := h4.get ha
            refine ⟨y, hya, fun w' hw => loadVar_one ht hk ?_⟩
            rw [cell_at (t := tt) (fz := (0, 0)) (cur := cur) (by rw [hw id (by simp [idsV]) _ _ hp hid rfl h1]; exact h3), h2, Nat.zero_add]
            simpa using hy
          · cases h
        · rename_i hk
          cases hb : Nat.ble (off + ti.size) cs.length with
          | false => rw [hb] at h; cases h
          | true =>
            rw [hb] at h
            simp only [cond_true, Option.some.injEq, Prod.mk.injEq] at h
            obtain ⟨rfl, rfl⟩ := h
            have hle := Nat.le_of_ble_eq_true hb
            refine ⟨.agg ((cur.toList.drop off).take ti.size).toArray, ⟨_, rfl, h4.part off ti.size⟩, fun w' hw => loadVar_agg ht hk (by simp [h4.1]; have := h4.1; simp at this; omega) fun j y hy => ?_⟩
            rw [addr_add, cell_at (t := tt) (fz := (0, 0)) (cur := cur) (by rw [hw id (by simp [idsV]) _ _ hp hid rfl h1]; exact h3), h2, Nat.zero_add]
            simp only [List.getElem?_take, List.getElem?_drop] at hy
            split at hy
            · simpa using hy
            · cases hy
        · cases h
      · cases h
    · rename_i id sz i f
      have key : ∀ (_e : TypeId) n cols, ((∃ p, ρ[id]? = some p ∧ RowOk p sz n cols ∧ (p.real = true → ∃ cur e fz, w.heap[p.blk]? = some (.cells cur e fz) ∧ ColsRel ρ H p sz n cols cur)) ∧ ∃ o, H[id]? = some o ∧ o.isDead = false) →
          (match ti.kind.isAgg with
            | some false => match cols[f]? with | some c => some (V.at (c.at i.toNat), decide (0 ≤ i ∧ i < n)) | none => none
            | some true => bif Nat.ble (f + ti.size) cols.length then some (.agg (colsAt ((cols.drop f).take ti.size) i.toNat), decide (0 ≤ i ∧ i < n)) else none
            | none => none) = some (v, c) →
          ∃ y, VRel ρ H v y ∧ ∀ w' : World, HSame ρ H [id] w w' → (Instr.loadAt t u).run P w' = .ok y w' := by
        intro e0 n cols ⟨⟨p, hp, hok, hreal⟩, o, ho, hod⟩ h
        have hnd : H[id]? ≠ some .dead := fun hx => by rw [ho] at hx; cases hx; cases hod
        have hg : u = .pointer (some (p.addr (i.toNat * sz + f))) := by
          rcases hx with hx | ⟨q, hq, hx⟩
          · exact absurd hx hnd
          · rw [hp] at hq; cases hq; exact hx
        subst hg
        have hin0 : c = true → i.toNat < n.toNat := fun hc => by
          split at h
          · split at h
            · simp only [Option.some.injEq, Prod.mk.injEq] at h; obtain ⟨_, rfl⟩ := h; have hc := of_decide_eq_true hc; omega
            · cases h
          · cases hb : Nat.ble (f + ti.size) cols.length with
            | false => rw [hb] at h; cases h
            | true => rw [hb] at h; simp only [cond_true, Option.some.injEq, Prod.mk.injEq] at h; obtain ⟨_, rfl⟩ := h; have hc := of_decide_eq_true hc; omega
          · cases h
        have hin := hin0 hc
        clear hin0
        have hrl : p.real = true := by
          cases hpr : p.real with
          | true => rfl
          | false => have := hok.2.2.2.2.2.2 hpr; have := hok.2.2.2.2.1; omega
        obtain ⟨cur, e, fz, hh, hcols⟩ := hreal hrl
        split at h
        · rename_i hk
          split at h
          · rename_i col hcol
            simp only [Option.some.injEq, Prod.mk.injEq] at h
            obtain ⟨rfl, rfl⟩ := h
            obtain ⟨y, hy, hya⟩ := hcols i.toNat f col hin hcol
            refine ⟨y, hya, fun w' hw => loadVar_one ht hk ?_⟩
            rw [cell_at (t := e) (fz := fz) (cur := cur) (by rw [hw id (by simp) _ _ hp ho hod hrl]; exact hh)]
            rw [← Nat.add_assoc]
            exact hy
          · cases h
        · rename_i hk
          cases hb : Nat.ble (f + ti.size) cols.length with
          | false => rw [hb] at h; cases h
          | true =>
            rw [hb] at h
            simp only [cond_true, Option.some.injEq, Prod.mk.injEq] at h
            obtain ⟨rfl, rfl⟩ := h
            have hle := Nat.le_of_ble_eq_true hb
            have hget : ∀ j, j < ti.size → ∃ y, cur[p.off + i.toNat * sz + (f + j)]? = some y ∧ ∀ a, (colsAt ((cols.drop f).take ti.size) i.toNat)[j]? = some a → ARel ρ H a y := by
              intro j hj
              have hlt : f + j < cols.length := by omega
              obtain ⟨y, hy, hya⟩ := hcols i.toNat (f + j) cols[f + j] hin (List.getElem?_eq_getElem hlt)
              refine ⟨y, hy, fun a ha => ?_⟩
              simp only [colsAt, List.getElem?_map, List.getElem?_take, List.getElem?_drop, hj, if_true, List.getElem?_eq_getElem hlt, Option.map_some, Option.some.injEq] at ha
              subst ha; exact hya
            let vs := (List.range ti.size).map fun j => (cur[p.off + i.toNat * sz + (f + j)]?).getD undef
            have hvs : ∀ (j : Nat) (y : Value), vs[j]? = some y → j < ti.size ∧ cur[p.off + i.toNat * sz + (f + j)]? = some y := by
              intro j y hy
              simp only [vs, List.getElem?_map, List.getElem?_range] at hy
              by_cases hj : j < ti.size
              · simp only [List.getElem?_range hj, Option.map_some, Option.some.injEq] at hy
                obtain ⟨z, hz, _⟩ := hget j hj
                rw [hz] at hy ⊢
                exact ⟨hj, congrArg some hy⟩
              · simp [List.getElem?_eq_none, Nat.le_of_not_lt hj] at hy
            refine ⟨.agg vs.toArray, ⟨vs, rfl, by simp [vs, colsAt]; omega, fun j a y ha hy => ?_⟩, fun w' hw => loadVar_agg ht hk (by simp [vs]) fun j y hy => ?_⟩
            · obtain ⟨hj, hcy⟩ := hvs j y hy
              obtain ⟨z, hz, hza⟩ := hget j hj
              rw [hz] at hcy; cases hcy
              exact hza a ha
            · obtain ⟨hj, hcy⟩ := hvs j y hy
              rw [addr_add, cell_at (t := e) (fz := fz) (cur := cur) (by rw [hw id (by simp) _ _ hp ho hod hrl]; exact hh)]
              rw [show p.off + (i.toNat * sz + f + j) = p.off + i.toNat * sz + (f + j) by omega]
              exact hcy
        · cases h
      split at h
      · rename_i e sz' n cols hid
        cases hb : Nat.beq sz sz' with
        | false => rw [hb] at h; cases h
        | true =>
          have e' : sz = sz' := Nat.eq_of_beq_eq_true hb
          subst e'
          rw [hb] at h
          obtain ⟨p, hp, hok, hreal⟩ := hr.at hid
          exact key e n cols ⟨⟨p, hp, hok, fun hr => let ⟨cur, a1, _, a3⟩ := hreal hr; ⟨cur, _, _, a1, a3⟩⟩, _, hid, rfl⟩ h
      · rename_i e sz' n cols hid
        cases hb : Nat.beq sz sz' with
        | false => rw [hb] at h; cases h
        | true =>
          have e' : sz = sz' := Nat.eq_of_beq_eq_true hb
          subst e'
          rw [hb] at h
          obtain ⟨p, hp, hok, hreal⟩ := hr.at hid
          exact key e n cols ⟨⟨p, hp, hok, hreal⟩, _, hid, rfl⟩ h
      · rename_i tt cs hid
        split at h
        · rename_i k l hk hrun
          cases hb : Nat.beq sz 1 with
          | false => rw [hb] at h; cases h
          | true =>
            have e' : sz = 1 := Nat.eq_of_beq_eq_true hb
            subst e'
            rw [hb] at h
            simp only [cond_true, Option.some.injEq, Prod.mk.injEq] at h
            obtain ⟨rfl, rfl⟩ := h
            have hc := of_decide_eq_true hc
            obtain ⟨p, hp, h1, h2, cur, h3, h4⟩ := hr.at hid
            have hg : u = .pointer (some (p.addr (i.toNat * 1 + f))) := by
              rcases hx with hx | ⟨q, hq, hx⟩
              · rw [Gone, hid] at hx; cases hx
              · rw [hp] at hq; cases hq; exact hx
            subst hg
            have ha := intRun_at hrun i.toNat (by omega)
            rw [List.getElem?_drop] at ha
            obtain ⟨y, hy, hya⟩ := h4.get ha
            refine ⟨y, hya, fun w' hw => loadVar_one ht hk ?_⟩
            rw [cell_at (t := tt) (fz := (0, 0)) (cur := cur) (by rw [hw id (by simp [idsV]) _ _ hp hid rfl h1]; exact h3), h2, Nat.zero_add, Nat.mul_one, Nat.add_comm]
            simpa using hy
        · cases h
      · cases h
    · cases h
end
end Go.Sx

namespace Go.Sx
open Go

def bt (s : ByteArray) (i : Int) : Int := ((s.data.toList.getD i.toNat 0).toNat : Int)
def strSl (s : ByteArray) (lo hi : Int) : ByteArray := s.extract lo.toNat hi.toNat
def offAdd (o : Option Int) (i : Int) : Int := match o with | none => i | some x => x + i
def rawI (v : V) : Option Int := match v with | .at (.raw (.int _ n)) => some n | _ => none

def kd (tl : Tab) (t : Nat) : Option TK := match lk tl t with | some ti => some ti.kind | none => none
theorem kd_ok {P : Program} {tl : Tab} (h : TabOk P tl) {t : Nat} {k : TK} (hk : kd tl t = some k) : k.ok P t := by
  unfold kd at hk
  split at hk
  · rename_i ti hti; cases hk; exact (h t ti hti).kind
  · cases hk

def nField (tl : Tab) (t : TypeId) (x : V) (f : Nat) : Option V :=
  match kd tl t with
  | some (.st fs) =>
    match fs[f]?, x with
    | some (off, ty), .agg as =>
      match lk tl ty with
      | some ti =>
        match ti.kind.isAgg with
        | some false => match as[off]? with | some a => some (.at a) | none => none
        | some true => bif Nat.ble (off + ti.size) as.length then some (.agg ((as.drop off).take ti.size)) else none
        | none => none
      | none => none
    | _, _ => none
  | _ => none

def alive (H : Heap) (id : Nat) : Bool := match H[id]? with | some .dead => false | some _ => true | none => false
theorem not_gone {H : Heap} {id : Nat} (h : alive H id = true) : ¬ Gone H id := by
  intro hg; unfold Gone at hg; simp [alive, hg] at h

def nFieldAddr (H : Heap) (tl : Tab) (t : TypeId) (x : V) (f : Nat) : Option V :=
  match kd tl t with
  | some (.st fs) =>
    match fs[f]? with
    | some (off, ty) =>
      match lk tl ty with
      | some ti =>
        bif Nat.beq ti.size 0 then none else
          match x with
          | .at (.ptr id o) => bif alive H id then some (.at (.ptr id (o + off))) else none
          | .at (.eptr id sz i g) => bif alive H id then some (.at (.eptr id sz i (g + off))) else none
          | _ => none
      | none => none
    | none => none
  | _ => none

def nIndexAddr (H : Heap) (tl : Tab) (t : TypeId) (x i : V) : Option (V × Bool) :=
  match kd tl t, i with
  | some (.sl e), .at (.raw (.int _ n)) =>
    match lk tl e, x with
    | some ti, .at (.sl id sz off len) => bif Nat.beq ti.size sz && alive H id then some (.at (.eptr id sz (offAdd off n) 0), decide (0 ≤ n ∧ n < len)) else none
    | _, _ => none
  | some (.arr k e), .at (.raw (.int _ n)) =>
    match lk tl e, x with
    | some ti, .at (.ptr id o) => bif alive H id then some (.at (match ti.kind with | .int _ => .eptr id ti.size n o | _ => .ptr id (o + n.toNat * ti.size)), decide (0 ≤ n ∧ n < (k : Int))) else none
    | _, _ => none
  | _, _ => none

def nIndex (tl : Tab) (t : TypeId) (x i : V) : Option (V × Bool) :=
  match kd tl t, x, i with
  | some .str, .at (.raw (.string s)), .at (.raw (.int _ n)) => some (.at (.raw (.int .u8 (bt s n))), decide (0 ≤ n ∧ n < (s.size : Int)))
  | some (.arr k e), .agg as, .at (.raw (.int _ n)) =>
    match lk tl e with
    | some ti =>
      match ti.kind.isAgg, as[n.toNat * ti.size]? with
      | some false, some a => some (.at a, decide (0 ≤ n ∧ n < (k : Int)))
      | _, _ => none
    | none => none
  | _, _, _ => none

def nLen (H : Heap) (tl : Tab) (t : TypeId) (x : V) : Option V :=
  match kd tl t, x with
  | some .str, .at (.raw (.string s)) => some (.at (.raw (.int .i64 (s.size : Int))))
  | some (.sl _), .at (.sl id _ _ len) => bif alive H id then some (.at (.raw (.int .i64 len))) else none
  | some (.sl _), .at (.raw (.slice none 0 0)) => some (.at (.raw (.int .i64 0)))
  | some (.map _ _), .at (.map id) =>
    match H[id]? with
    | some (.map _ ks _) => some (.at (.raw (.int .i64 (ks.length : Int))))
    | _ => none
  | _, _ => none

section
variable {P : Program} {E : Nat → Prop} {w0 w : World} {ρ : List Pl} {H : Heap}


theorem field_get {F : Array Field} {fs : List (Nat × Nat)} (hF : F.toList.map (fun f => (f.offset, f.type)) = fs) {j o t : Nat} (h : fs[j]? = some (o, t)) : ∃ f, F[j]? = some f ∧ f.offset = o ∧ f.type = t := by
  subst hF
  simp only [List.getElem?_map, Option.map_eq_some_iff, Prod.mk.injEq] at h
  obtain ⟨f, hf, h1, h2⟩ := h
  exact ⟨f, by simpa using hf, h1, h2⟩

theorem part_one {t : TypeId} {ti : TI} (ht : TiOk P t ti) (hk : ti.kind.isAgg = some false) {cs : Array Value} {o : Nat} {u : Value} (h : cs[o]? = some u) (w' : World) : (part t cs o).run P w' = .ok u w' := by
  simp [part, ht.isAgg_run hk, h]
theorem part_agg {t : TypeId} {ti : TI} (ht : TiOk P t ti) (hk : ti.kind.isAgg = some true) (cs : Array Value) (o : Nat) (w' : World) : (part t cs o).run P w' = .ok (.agg (cs.extract o (o + ti.size))) w' := by
  simp [part, ht.isAgg_run hk, ht.size_run]

theorem nField_ok {tl : Tab} (htl : TabOk P tl) {t : TypeId} {x v : V} {f : Nat} {u : Value} (h : nField tl t x f = some v) (hx : VRel ρ H x u) :
    ∃ y, VRel ρ H v y ∧ ∀ w' : World, (Instr.field t u f).run P w' = .ok y w' := by
  unfold nField at h
  split at h
  · rename_i fs hti
    split at h
    · rename_i off ty as hf
      obtain ⟨F, hF, hm⟩ := kd_ok htl hti
      obtain ⟨fd, hfd, ho, hty⟩ := field_get hm hf
      obtain ⟨vs, rfl, hv⟩ := hx
      split at h
      · rename_i ti' hti'
        have ht := htl ty ti' hti'
        split at h
        · rename_i hk
          split at h
          · rename_i a ha
            cases h
            obtain ⟨y, hy, hya⟩ := hv.get ha
            refine ⟨y, hya, fun w' => ?_⟩
            simp only [Instr.field, Sem.run_bind, run_underlying hF, Result.andThen_ok, hfd, asAgg, Sem.run_pure, ho, hty]
            exact part_one ht hk (by simpa using hy) w'
          · cases h
        · rename_i hk
          cases hb : Nat.ble (off + ti'.size) as.length with
          | false => rw [hb] at h; cases h
          | true =>
            rw [hb] at h
            cases h
            refine ⟨.agg ((vs.drop off).take ti'.size).toArray, ⟨_, rfl, hv.part off ti'.size⟩, fun w' => ?_⟩
            simp only [Instr.field, Sem.run_bind, run_underlying hF, Result.andThen_ok, hfd, asAgg, Sem.run_pure, ho, hty]
            rw [part_agg ht hk]
            simp [List.extract_eq_take_drop]
        · cases h
      · cases h
    · cases h
  · cases h

theorem nFieldAddr_ok {tl : Tab} (htl : TabOk P tl) {t : TypeId} {x v : V} {f : Nat} {u : Value} (h : nFieldAddr H tl t x f = some v) (hx : VRel ρ H x u) :
    ∃ y, VRel ρ H v y ∧ ∀ w' : World, (Instr.fieldAt t u f).run P w' = .ok y w' := by
  unfold nFieldAddr at h
  split at h
  · rename_i fs hti
    split at h
    · rename_i off ty hf
      obtain ⟨F, hF, hm⟩ := kd_ok htl hti
      obtain ⟨fd, hfd, ho, hty⟩ := field_get hm hf
      split at h
      · rename_i ti' hti'
        have ht := htl ty ti' hti'
        cases hb : Nat.beq ti'.size 0 with
        | true => rw [hb] at h; cases h
        | false =>
          have hne : ti'.size ≠ 0 := Nat.ne_of_beq_eq_false hb
          rw [hb] at h
          simp only [cond_false] at h
          split at h
          · rename_i id o
            cases ha : alive H id with
            | false => rw [ha] at h; cases h
            | true =>
              rw [ha] at h
              cases h
              obtain ⟨p, hp, rfl⟩ := hx.resolve_left (not_gone ha)
              refine ⟨_, .inr ⟨p, hp, rfl⟩, fun w' => ?_⟩
              simp [Instr.fieldAt, run_underlying hF, hfd, Instr.sureAddr, fieldPlace, hty, ht.size_run, hne, ho, addr_add]
          · rename_i id sz i g
            cases ha : alive H id with
            | false => rw [ha] at h; cases h
            | true =>
              rw [ha] at h
              cases h
              obtain ⟨p, hp, rfl⟩ := hx.resolve_left (not_gone ha)
              refine ⟨_, .inr ⟨p, hp, rfl⟩, fun w' => ?_⟩
              simp [Instr.fieldAt, run_underlying hF, hfd, Instr.sureAddr, fieldPlace, hty, ht.size_run, hne, ho, addr_add, Nat.add_assoc]
          · cases h
      · cases h
    · cases h
  · cases h

theorem nIndexAddr_ok {tl : Tab} (htl : TabOk P tl) {t : TypeId} {x i v : V} {u j : Value} {c : Bool} (h : nIndexAddr H tl t x i = some (v, c)) (hc : c = true) (hx : VRel ρ H x u) (hi : VRel ρ H i j) :
    ∃ y, VRel ρ H v y ∧ ∀ w' : World, (Instr.indexAt t u j).run P w' = .ok y w' := by
  unfold nIndexAddr at h
  split at h
  · rename_i e k n hti
    have hu : P.underlying t = some (.slice e) := kd_ok htl hti
    split at h
    · rename_i ti' id sz off len hti'
      cases hb : (Nat.beq ti'.size sz && alive H id) with
      | false => rw [hb] at h; cases h
      | true =>
        rw [hb] at h
        cases h
        rw [Bool.and_eq_true] at hb
        have hsz : ti'.size = sz := Nat.eq_of_beq_eq_true hb.1
        obtain ⟨p, hp, h0, h1, h2, hsl⟩ := hx.resolve_left (not_gone hb.2)
        have ht := htl e ti' hti'
        simp only [VRel, ARel] at hi
        subst hi
        have hc := of_decide_eq_true hc
        have hcap : p.cap - (off.getD 0).toNat ≠ 0 := by omega
        rcases hsl with ⟨hr, a, rfl, ha⟩ | ⟨hr, hr2, oa, rfl⟩
        · rw [ha hcap]
          refine ⟨.pointer (some (p.addr ((offAdd off n).toNat * sz + 0))), .inr ⟨p, hp, rfl⟩, fun w' => ?_⟩
          have hlen : n < ((len.toNat : Nat) : Int) := by omega
          have heq : (off.getD 0).toNat * sz + n.toNat * sz = (offAdd off n).toNat * sz := by
            cases off with
            | none => simp [offAdd]
            | some o => simp only [Option.getD_some] at h0 ⊢; simp only [offAdd]; rw [← Nat.add_mul]; congr 1; omega
          simp only [Instr.indexAt, asIntOf, Sem.run_bind, Sem.run_pure, Result.andThen_ok, run_underlying hu]
          rw [if_pos ⟨hc.1, hlen⟩]
          simp [ht.size_run, hsz, addr_add, heq]
        · omega
    · cases h
  · rename_i m e k n hti
    have hu : P.underlying t = some (.array m e) := kd_ok htl hti
    split at h
    · rename_i ti' id o hti'
      cases hb : alive H id with
      | false => rw [hb] at h; cases h
      | true =>
        rw [hb] at h
        cases h
        have ht := htl e ti' hti'
        obtain ⟨p, hp, rfl⟩ := hx.resolve_left (not_gone hb)
        simp only [VRel, ARel] at hi
        subst hi
        refine ⟨.pointer (some (p.addr (o + n.toNat * ti'.size))), ?_, fun w' => ?_⟩
        · split
          · exact .inr ⟨p, hp, by rw [Nat.add_comm]⟩
          · exact .inr ⟨p, hp, rfl⟩
        simp only [Instr.indexAt, asIntOf, Sem.run_bind, Sem.run_pure, Result.andThen_ok, run_underlying hu, Instr.sureAddr]
        rw [if_pos ⟨(of_decide_eq_true hc).1, (of_decide_eq_true hc).2⟩]
        simp [ht.size_run, addr_add]
    · cases h
  · cases h

theorem bt_get (s : ByteArray) (n : Int) (h0 : 0 ≤ n) (h1 : n < (s.size : Int)) : ∃ b : UInt8, s[n.toNat]? = some b ∧ bt s n = (b.toNat : Int) := by
  have hlt : n.toNat < s.size := by omega
  refine ⟨s[n.toNat], getElem?_pos s n.toNat hlt, ?_⟩
  unfold bt
  have hl : n.toNat < s.data.toList.length := by simpa using hlt
  rw [List.getD_eq_getElem?_getD, List.getElem?_eq_getElem hl]
  rfl

theorem nIndex_ok {tl : Tab} (htl : TabOk P tl) {t : TypeId} {x i v : V} {u j : Value} {c : Bool} (h : nIndex tl t x i = some (v, c)) (hc : c = true) (hx : VRel ρ H x u) (hi : VRel ρ H i j) :
    ∃ y, VRel ρ H v y ∧ ∀ w' : World, (Instr.index t u j).run P w' = .ok y w' := by
  unfold nIndex at h
  split at h
  · rename_i s k n hti
    have hu : P.underlying t = some .string := kd_ok htl hti
    cases h
    simp only [VRel, ARel] at hx hi
    subst hx hi
    have hc := of_decide_eq_true hc
    obtain ⟨b, hb, hbt⟩ := bt_get s n hc.1 hc.2
    refine ⟨.int .u8 (bt s n), rfl, fun w' => ?_⟩
    simp only [Instr.index, asIntOf, Sem.run_bind, Sem.run_pure, Result.andThen_ok, run_underlying hu]
    rw [if_pos hc.1, hb, hbt]
    rfl
  · rename_i m e as k n hti
    have hu : P.underlying t = some (.array m e) := kd_ok htl hti
    split at h
    · rename_i ti' hti'
      have ht := htl e ti' hti'
      split at h
      · rename_i a hk ha
        cases h
        obtain ⟨vs, rfl, hv⟩ := hx
        simp only [VRel, ARel] at hi
        subst hi
        obtain ⟨y, hy, hya⟩ := hv.get ha
        refine ⟨y, hya, fun w' => ?_⟩
        simp only [Instr.index, asIntOf, Sem.run_bind, Sem.run_pure, Result.andThen_ok, run_underlying hu]
        rw [if_pos ⟨(of_decide_eq_true hc).1, (of_decide_eq_true hc).2⟩]
        simp only [Sem.run_bind, ht.size_run, Result.andThen_ok]
        exact part_one ht hk (by simpa using hy) w'
      · cases h
    · cases h
  · cases h

theorem nLen_ok {tl : Tab} (htl : TabOk P tl) (hr : HRead ρ H w) {t ty : TypeId} {x v : V} {u : Value} (h : nLen H tl t x = some v) (hx : VRel ρ H x u) :
    ∃ y, VRel ρ H v y ∧ ∀ w' : World, HSame ρ H (idsV x) w w' → (Builtin.len_ #[t] ty #[u]).run P w' = .ok y w' := by
  unfold nLen at h
  split at h
  · rename_i s hti
    have hu : P.underlying t = some .string := kd_ok htl hti
    cases h
    simp only [VRel, ARel] at hx
    subst hx
    exact ⟨_, rfl, fun w' _ => by simp [Builtin.len_, run_underlying hu, goInt]⟩
  · rename_i e id sz off len hti
    have hu : P.underlying t = some (.slice e) := kd_ok htl hti
    cases hb : alive H id with
    | false => rw [hb] at h; cases h
    | true =>
      rw [hb] at h
      cases h
      obtain ⟨p, hp, h0, h1, h2, hsl⟩ := hx.resolve_left (not_gone hb)
      refine ⟨.int .i64 len, rfl, fun w' _ => ?_⟩
      rcases hsl with ⟨hr, a, rfl, ha⟩ | ⟨hr, hr2, oa, rfl⟩
      · simp [Builtin.len_, run_underlying hu, goInt, Int.toNat_of_nonneg h1]
      · have : len = 0 := by omega
        subst this
        simp [Builtin.len_, run_underlying hu, goInt]
  · rename_i e hti
    have hu : P.underlying t = some (.slice e) := kd_ok htl hti
    cases h
    simp only [VRel, ARel] at hx
    subst hx
    exact ⟨_, rfl, fun w' _ => by simp [Builtin.len_, run_underlying hu, goInt]⟩
  · rename_i k e id hti
    have hu : P.underlying t = some (.map k e) := kd_ok htl hti
    split at h
    · rename_i kt ks col hid
      cases h
      obtain ⟨p, hp, h1, h2, es, clock, h3, h4, _⟩ := hr.at hid
      rcases hx with hx | ⟨q, hq, rfl⟩
      · rw [Gone, hid] at hx; cases hx
      · rw [hp] at hq; cases hq
        refine ⟨.int .i64 (ks.length : Int), rfl, fun w' hw => ?_⟩
        have hg : (getObj p.blk).run P w' = .ok (.map es clock) w' := by simp [getObj, Sem.run, hw id (by simp [idsV]) _ _ hp hid rfl h1, h3]
        simp [Builtin.len_, run_underlying hu, goInt, hg, h4]
    · cases h
  · cases h
end
end Go.Sx

namespace Go.Sx
open Go

def optI : Option V → Option (Option Int)
  | none => some none
  | some (.at (.raw (.int _ n))) => some (some n)
  | _ => none

def offSl (off : Option Int) (lo : Option Int) : Option Int := match lo with | none => off | some l => some (offAdd off l)
def lenSl (len : Int) (lo hi : Option Int) : Int :=
  match lo, hi with
  | none, none => len
  | none, some h => h
  | some l, none => len - l
  | some l, some h => h - l
def condSl (len : Int) (lo hi : Option Int) : Bool :=
  match lo, hi with
  | none, none => true
  | none, some h => decide (0 ≤ h ∧ h ≤ len)
  | some l, none => decide (0 ≤ l ∧ l ≤ len)
  | some l, some h => decide (0 ≤ l ∧ l ≤ h ∧ h ≤ len)
def strSlO (s : ByteArray) (lo hi : Option Int) : ByteArray :=
  match lo, hi with
  | none, none => s
  | none, some h => strSl s 0 h
  | some l, none => strSl s l (s.size : Int)
  | some l, some h => strSl s l h

def isRo (H : Heap) (id : Nat) : Bool := match H[id]? with | some (.ro ..) => true | _ => false
/-- What is cut off at its end is told by where it begins and how long it is. -/
def cutOff (ro : Bool) (off lo hi : Option Int) : Option Int :=
  match ro, hi with
  | true, some _ => some ((offSl off lo).getD 0)
  | _, _ => offSl off lo
theorem cutOff_getD (ro : Bool) (off lo hi : Option Int) : (cutOff ro off lo hi).getD 0 = (offSl off lo).getD 0 := by
  cases ro <;> cases hi <;> rfl
def nSlice (H : Heap) (tl : Tab) (t : TypeId) (x : V) (lo hi : Option V) : Option (V × Bool) :=
  match kd tl t, x, optI lo, optI hi with
  | some .str, .at (.raw (.string s)), some l, some h => some (.at (.raw (.string (strSlO s l h))), condSl (s.size : Int) l h)
  | some (.sl e), .at (.sl id sz off len), some l, some h =>
    match lk tl e with
    | some ti => bif Nat.beq ti.size sz && alive H id then some (.at (.sl id sz (cutOff (isRo H id) off l h) (lenSl len l h)), condSl len l h) else none
    | none => none
  | some (.sl e), .at (.raw (.slice none 0 0)), some l, some h =>
    match lk tl e with
    | some _ => some (.at (.raw (.slice none 0 0)), condSl 0 l h)
    | none => none
  | _, _, _, _ => none

def nUn (op : UnOp) (x : V) : Option V :=
  match op, x with
  | .not, .at (.raw (.bool b)) => some (.at (.raw (.bool (!b))))
  | .neg, .at (.raw (.int k n)) => some (.at (.raw (.int k (subI k 0 n))))
  | _, _ => none

def wrapI (k : IntKind) (n : Int) : Int := k.wrap n
def nConv (tl : Tab) (src dst : TypeId) (x : V) : Option V :=
  match kd tl src, kd tl dst, x with
  | some (.int _), some (.int k), .at (.raw (.int _ n)) => some (.at (.raw (.int k (wrapI k n))))
  | some .str, some .str, .at (.raw (.string s)) => some (.at (.raw (.string s)))
  | _, _, _ => none

def foldMM (f : Int → Int → Int) : Int → List V → Option Int
  | a, [] => some a
  | a, .at (.raw (.int _ n)) :: r => foldMM f (f a n) r
  | _, _ => none
def nMM (f : Int → Int → Int) : List V → Option V
  | .at (.raw (.int k n)) :: r => match foldMM f n r with | some m => some (.at (.raw (.int k m))) | none => none
  | _ => none

def nExtract (x : V) (i : Nat) : Option V :=
  match x with
  | .tup xs => match xs[i]? with | some y => some y.v | none => none
  | .at (.raw (.tuple vs)) => match vs[i]? with | some y => some (.at (.raw y)) | none => none
  | _ => none

def capsOf : List V → Option (List (Nat × Nat))
  | [] => some []
  | .at (.ptr id o) :: r => match capsOf r with | some l => some ((id, o) :: l) | none => none
  | _ => none

def nEqNil (H : Heap) (x y : V) : Option Bool :=   -- x == nil, pointers and maps
  match x, y with
  | .at (.ptr id _), .at (.raw (.pointer none)) => bif alive H id then some false else none
  | .at (.raw (.pointer none)), .at (.raw (.pointer none)) => some true
  | _, _ => none

def nBin (H : Heap) (tl : Tab) (op : BinOp) (t : TypeId) (x y : V) : Option (V × Bool) :=
  match x, y with
  | .at (.raw (.bool a)), .at (.raw (.bool b)) =>
    match op, kd tl t with
    | .eql, some .bool => some (.at (.raw (.bool (a == b))), true)
    | .neq, some .bool => some (.at (.raw (.bool (!(a == b)))), true)
    | _, _ => none
  | .at (.raw (.pointer _)), _ | .at (.ptr _ _), _ =>
    match op, kd tl t, nEqNil H x y with
    | .eql, some (.ptr _), some b => some (.at (.raw (.bool b)), true)
    | .neq, some (.ptr _), some b => some (.at (.raw (.bool (!b))), true)
    | _, _, _ => none
  | .at (.raw a), .at (.raw b) => match binR op a b with | some (v, c) => some (.at (.raw v), c) | none => none
  | _, _ => none

def mget {α : Type} (d : α) : List Int → List α → Int → α
  | k :: ks, v :: vs, n => bif k == n then v else mget d ks vs n
  | _, _, _ => d
def mhas : List Int → Int → Bool
  | [], _ => false
  | k :: ks, n => bif k == n then true else mhas ks n

section
variable {P : Program} {E : Nat → Prop} {w0 w : World} {ρ : List Pl} {H : Heap}

theorem sliceBounds_run {isS : Bool} {len cap : Nat} {lo hi : Option Value} {l h : Option Int} (hle : len ≤ cap)
    (hl : lo = l.map (Value.int .i64) ∨ ∃ k, lo = l.map (Value.int k)) (hh : ∃ k, hi = h.map (Value.int k)) (hc : condSl (len : Int) l h = true) (w' : World) :
    (Instr.sliceBounds isS len cap lo hi none).run P w' = .ok ((l.getD 0).toNat, (h.getD (len : Int)).toNat, cap) w' := by
  obtain ⟨k', rfl⟩ := hh
  have hl : ∃ k, lo = l.map (Value.int k) := by rcases hl with h | h; exact ⟨_, h⟩; exact h
  obtain ⟨k, rfl⟩ := hl
  cases l <;> cases h <;> simp only [condSl, decide_eq_true_eq] at hc
  · simp [Instr.sliceBounds]
  · rename_i h
    have h1 : h ≤ (cap : Int) := by omega
    simp [Instr.sliceBounds, run_sliceBound, hc.1, h1]
  · rename_i l
    simp [Instr.sliceBounds, run_sliceBound, hc.1, hc.2]
  · rename_i l h
    have h0 : 0 ≤ h := by omega
    have h1 : h ≤ (cap : Int) := by omega
    have h2 : l ≤ ((h.toNat : Nat) : Int) := by omega
    simp only [Instr.sliceBounds, Option.map_some, Sem.run_bind, Sem.run_pure, Result.andThen_ok, run_sliceBound w' k' h cap _ h0 h1, Option.isSome_none, Bool.false_eq_true, if_false, run_sliceBound w' k l h.toNat _ hc.1 h2, Option.getD_some]

theorem optI_rel {lo : Option V} {l : Option Int} {lo' : Option Value} (h : optI lo = some l) (hr : (lo = none ∧ lo' = none) ∨ ∃ x u, lo = some x ∧ lo' = some u ∧ VRel ρ H x u) : ∃ k, lo' = l.map (Value.int k) := by
  rcases hr with ⟨rfl, rfl⟩ | ⟨x, u, rfl, rfl, hx⟩
  · simp only [optI, Option.some.injEq] at h; subst h; exact ⟨.i64, rfl⟩
  · unfold optI at h
    split at h
    · rename_i e; cases e
    · rename_i k n e
      cases e; cases h
      simp only [VRel, ARel] at hx
      subst hx
      exact ⟨k, rfl⟩
    · cases h

theorem nSlice_ok {tl : Tab} (htl : TabOk P tl) {t : TypeId} {x v : V} {lo hi : Option V} {u : Value} {lo' hi' : Option Value} {c : Bool} (h : nSlice H tl t x lo hi = some (v, c)) (hc : c = true) (hx : VRel ρ H x u)
    (hlo : (lo = none ∧ lo' = none) ∨ ∃ x u, lo = some x ∧ lo' = some u ∧ VRel ρ H x u) (hhi : (hi = none ∧ hi' = none) ∨ ∃ x u, hi = some x ∧ hi' = some u ∧ VRel ρ H x u) :
    ∃ y, VRel ρ H v y ∧ ∀ w' : World, (Instr.sliceAt t u lo' hi' none).run P w' = .ok y w' := by
  unfold nSlice at h
  split at h
  · rename_i s l h' hti hl hh
    have hu : P.underlying t = some .string := kd_ok htl hti
    cases h
    obtain ⟨k, hk⟩ := optI_rel hl hlo
    obtain ⟨k', hk'⟩ := optI_rel hh hhi
    simp only [VRel, ARel] at hx
    subst hx
    refine ⟨_, rfl, fun w' => ?_⟩
    have hb := sliceBounds_run (P := P) (isS := false) (len := s.size) (cap := s.size) (Nat.le_refl _) (.inr ⟨k, hk⟩) ⟨k', hk'⟩ hc w'
    simp only [Instr.sliceAt, Sem.run_bind, run_underlying hu, Result.andThen_ok, Instr.slice, hb, Option.isSome_none, Bool.false_eq_true, if_false, Sem.run_pure]
    congr 2
    cases l <;> cases h' <;> simp [strSlO, strSl]
  · rename_i e id sz off len l h' hti hl hh
    have hu : P.underlying t = some (.slice e) := kd_ok htl hti
    split at h
    · rename_i ti hti'
      cases hb : (Nat.beq ti.size sz && alive H id) with
      | false => rw [hb] at h; cases h
      | true =>
        rw [hb] at h
        cases h
        rw [Bool.and_eq_true] at hb
        have hsz : ti.size = sz := Nat.eq_of_beq_eq_true hb.1
        obtain ⟨p, hp, h0, h1, h2, hsl⟩ := hx.resolve_left (not_gone hb.2)
        have ht := htl e ti hti'
        obtain ⟨k, hk⟩ := optI_rel hl hlo
        obtain ⟨k', hk'⟩ := optI_rel hh hhi
        have hlen : condSl ((len.toNat : Nat) : Int) l h' = true := by rw [Int.toNat_of_nonneg h1]; exact hc
        have facts : 0 ≤ l.getD 0 ∧ l.getD 0 ≤ h'.getD len ∧ h'.getD len ≤ len ∧ lenSl len l h' = h'.getD len - l.getD 0 ∧ (cutOff (isRo H id) off l h').getD 0 = off.getD 0 + l.getD 0 := by
          rw [cutOff_getD]
          cases l <;> cases h' <;> cases off <;> simp only [condSl, decide_eq_true_eq] at hc <;> simp [lenSl, offSl, offAdd] <;> omega
        obtain ⟨f1, f2, f3, f4, f5⟩ := facts
        rcases hsl with ⟨hr, a, rfl, ha⟩ | ⟨hr, hr2, oa, rfl⟩
        · have hbnd := sliceBounds_run (P := P) (isS := true) (len := len.toNat) (cap := p.cap - (off.getD 0).toNat) (by omega) (.inr ⟨k, hk⟩) ⟨k', hk'⟩ hlen
          refine ⟨.slice (if p.cap - (off.getD 0).toNat = (l.getD 0).toNat then some a else some (a.add ((l.getD 0).toNat * sz))) ((h'.getD len).toNat - (l.getD 0).toNat) (p.cap - (off.getD 0).toNat - (l.getD 0).toNat), .inr ⟨p, hp, by rw [f5]; omega, by omega, by rw [f4, f5]; omega, .inl ⟨hr, ?_⟩⟩, fun w' => ?_⟩
          · by_cases hq : p.cap - (off.getD 0).toNat = (l.getD 0).toNat
            · rw [if_pos hq]
              refine ⟨a, ?_, fun hne => ?_⟩
              · rw [f4, f5]; congr 1 <;> omega
              · rw [f5] at hne; omega
            · rw [if_neg hq]
              refine ⟨a.add ((l.getD 0).toNat * sz), ?_, fun hne => ?_⟩
              · rw [f4, f5]; congr 1 <;> omega
              · rw [ha (by omega), addr_add, f5, ← Nat.add_mul]
                congr 2; omega
          · simp only [Instr.sliceAt, Sem.run_bind, run_underlying hu, Result.andThen_ok, Instr.slice, hbnd, Sem.run_pure, ht.size_run, hsz, Option.map_some]
            congr 2
            rw [Int.toNat_of_nonneg h1]
        · have hlen0 : len = 0 := by omega
          subst hlen0
          have hl0 : l.getD 0 = 0 := by omega
          have hh0 : h'.getD 0 = 0 := by omega
          have hbnd := sliceBounds_run (P := P) (isS := true) (len := 0) (cap := 0) (Nat.le_refl _) (.inr ⟨k, hk⟩) ⟨k', hk'⟩ (by simpa using hc)
          refine ⟨.slice oa 0 0, .inr ⟨p, hp, by rw [f5]; omega, by omega, by rw [f4, f5]; omega, .inr ⟨hr, hr2, oa, rfl⟩⟩, fun w' => ?_⟩
          have hh0' : h'.getD ((0 : Nat) : Int) = 0 := hh0
          cases oa <;> simp [Instr.sliceAt, run_underlying hu, Instr.slice, hbnd, ht.size_run, hl0, hh0'] <;> omega
    · cases h
  · rename_i e l h' hti hl hh
    have hu : P.underlying t = some (.slice e) := kd_ok htl hti
    split at h
    · rename_i ti hti'
      cases h
      have ht := htl e ti hti'
      simp only [VRel, ARel] at hx
      subst hx
      obtain ⟨k, hk⟩ := optI_rel hl hlo
      obtain ⟨k', hk'⟩ := optI_rel hh hhi
      have f0 : l.getD 0 = 0 ∧ h'.getD 0 = 0 := by
        cases l <;> cases h' <;> simp only [condSl, decide_eq_true_eq] at hc <;> simp <;> omega
      have hbnd := sliceBounds_run (P := P) (isS := true) (len := 0) (cap := 0) (Nat.le_refl _) (.inr ⟨k, hk⟩) ⟨k', hk'⟩ (by simpa using hc)
      refine ⟨.slice none 0 0, rfl, fun w' => ?_⟩
      have hh0' : h'.getD ((0 : Nat) : Int) = 0 := f0.2
      simp [Instr.sliceAt, run_underlying hu, Instr.slice, hbnd, ht.size_run, f0.1, hh0']
      omega
    · cases h
  · cases h

theorem nUn_ok {op : UnOp} {x v : V} {u : Value} (h : nUn op x = some v) (hx : VRel ρ H x u) : ∃ y, VRel ρ H v y ∧ ∀ w' : World, (Op.unary op u).run P w' = .ok y w' := by
  unfold nUn at h
  split at h
  · cases h; simp only [VRel, ARel] at hx; subst hx; exact ⟨_, rfl, fun w' => rfl⟩
  · cases h; simp only [VRel, ARel] at hx; subst hx; exact ⟨_, rfl, fun w' => rfl⟩
  · cases h

theorem nConv_ok {tl : Tab} (htl : TabOk P tl) {src dst : TypeId} {x v : V} {u : Value} (h : nConv tl src dst x = some v) (hx : VRel ρ H x u) : ∃ y, VRel ρ H v y ∧ ∀ w' : World, (convert src dst u).run P w' = .ok y w' := by
  unfold nConv at h
  split at h
  · rename_i k0 k k1 n h1 h2
    have hs : P.underlying src = some (.int k0) := kd_ok htl h1
    have hd : P.underlying dst = some (.int k) := kd_ok htl h2
    cases h; simp only [VRel, ARel] at hx; subst hx
    exact ⟨_, rfl, fun w' => by simp [convert, run_underlying hs, run_underlying hd, Conv.intToInt, wrapI]⟩
  · rename_i s h1 h2
    have hs : P.underlying src = some .string := kd_ok htl h1
    have hd : P.underlying dst = some .string := kd_ok htl h2
    cases h; simp only [VRel, ARel] at hx; subst hx
    exact ⟨_, rfl, fun w' => by simp [convert, run_underlying hs, run_underlying hd]⟩
  · cases h

/-- Arguments, one by one. -/
inductive VsRel (ρ : List Pl) (H : Heap) : List V → List Value → Prop
  | nil : VsRel ρ H [] []
  | cons {x : V} {u : Value} {xs : List V} {us : List Value} (h : VRel ρ H x u) (hs : VsRel ρ H xs us) : VsRel ρ H (x :: xs) (u :: us)

theorem foldMM_ok {f : Int → Int → Int} {g : Value → Value → Sem Value} (hg : ∀ (k k' : IntKind) (a b : Int), g (.int k a) (.int k' b) = pure (.int k (f a b))) {k : IntKind} {w' : World} :
    ∀ {xs : List V} {us : List Value} {a m : Int}, VsRel ρ H xs us → foldMM f a xs = some m → (us.foldlM g (.int k a)).run P w' = .ok (.int k m) w' := by
  intro xs
  induction xs with
  | nil => intro us a m hv h; cases hv; simp only [foldMM, Option.some.injEq] at h; subst h; rfl
  | cons x xs ih =>
    intro us a m hv h
    cases hv with
    | cons hx hs =>
      unfold foldMM at h
      split at h
      · rename_i e; cases e
      · rename_i k' n r e
        cases e
        simp only [VRel, ARel] at hx
        subst hx
        simp only [List.foldlM_cons, hg, pure_bind]
        exact ih hs h
      · cases h

theorem nMax_ok {xs : List V} {us : List Value} {v : V} (h : nMM maxI xs = some v) (hx : VsRel ρ H xs us) (ts : Array TypeId) (t : TypeId) : ∃ y, VRel ρ H v y ∧ ∀ w' : World, (Builtin.max_ ts t us.toArray).run P w' = .ok y w' := by
  unfold nMM at h
  split at h
  · rename_i k n r
    cases hx with
    | cons h0 hs =>
      simp only [VRel, ARel] at h0
      subst h0
      split at h
      · rename_i m hm
        cases h
        refine ⟨_, rfl, fun w' => ?_⟩
        simp only [Builtin.max_]
        exact foldMM_ok (fun _ _ _ _ => rfl) hs hm
      · cases h
  · cases h
theorem nMin_ok {xs : List V} {us : List Value} {v : V} (h : nMM minI xs = some v) (hx : VsRel ρ H xs us) (ts : Array TypeId) (t : TypeId) : ∃ y, VRel ρ H v y ∧ ∀ w' : World, (Builtin.min_ ts t us.toArray).run P w' = .ok y w' := by
  unfold nMM at h
  split at h
  · rename_i k n r
    cases hx with
    | cons h0 hs =>
      simp only [VRel, ARel] at h0
      subst h0
      split at h
      · rename_i m hm
        cases h
        refine ⟨_, rfl, fun w' => ?_⟩
        simp only [Builtin.min_]
        exact foldMM_ok (fun _ _ _ _ => rfl) hs hm
      · cases h
  · cases h

theorem W.v_rel {x : W} {u : Value} (h : WRel ρ H x u) : VRel ρ H x.v u := by cases x <;> exact h

theorem nExtract_ok {x v : V} {i : Nat} {u : Value} (h : nExtract x i = some v) (hx : VRel ρ H x u) : ∃ y, VRel ρ H v y ∧ ∀ w' : World, (Instr.extract u i).run P w' = .ok y w' := by
  unfold nExtract at h
  split at h
  · rename_i xs
    split at h
    · rename_i y hy
      cases h
      obtain ⟨vs, rfl, hl, hv⟩ := hx
      have hi : i < vs.length := by rw [hl]; exact (List.getElem?_eq_some_iff.1 hy).1
      refine ⟨vs[i], W.v_rel (hv i y _ hy (List.getElem?_eq_getElem hi)), fun w' => ?_⟩
      simp [Instr.extract, hi]
    · cases h
  · rename_i vs
    split at h
    · rename_i y hy
      cases h
      simp only [VRel, ARel] at hx
      subst hx
      exact ⟨y, rfl, fun w' => by simp [Instr.extract, hy]⟩
    · cases h
  · cases h

theorem nEqNil_ok {x y : V} {u z : Value} {b : Bool} (hb : nEqNil H x y = some b) (hx : VRel ρ H x u) (hy : VRel ρ H y z) : z = .pointer none ∧ ∃ q, u = .pointer q ∧ b = q.isNone := by
  unfold nEqNil at hb
  split at hb
  · rename_i id o
    cases ha : alive H id with
    | false => rw [ha] at hb; cases hb
    | true =>
      rw [ha] at hb; cases hb
      obtain ⟨p, _, rfl⟩ := hx.resolve_left (not_gone ha)
      exact ⟨hy, _, rfl, rfl⟩
  · cases hb; exact ⟨hy, none, hx, rfl⟩
  · cases hb

theorem ptrEql_run {tl : Tab} (htl : TabOk P tl) {t e : Nat} (hk : kd tl t = some (.ptr e)) (ox oy : Operand) (q : Option Addr) (w' : World) :
    (do eqGuard .eql t ox oy (.pointer q) (.pointer none); binOp .eql t (.pointer q) (.pointer none) : Sem Value).run P w' = .ok (.bool q.isNone) w' := by
  have hp : P.underlying t = some (.pointer e) := kd_ok htl hk
  have hp' : P.underlying t = some (.pointer (P.pointee t)) := by rw [hp]; simp [Program.pointee, hp]
  simp only [eqGuard_at_pointer, Sem.run_bind, Sem.run_pure, Result.andThen_ok, run_eql_pointer_nil w' t q hp']
theorem ptrNeq_run {tl : Tab} (htl : TabOk P tl) {t e : Nat} (hk : kd tl t = some (.ptr e)) (ox oy : Operand) (q : Option Addr) (w' : World) :
    (do eqGuard .neq t ox oy (.pointer q) (.pointer none); binOp .neq t (.pointer q) (.pointer none) : Sem Value).run P w' = .ok (.bool (!q.isNone)) w' := by
  have hp : P.underlying t = some (.pointer e) := kd_ok htl hk
  have hp' : P.underlying t = some (.pointer (P.pointee t)) := by rw [hp]; simp [Program.pointee, hp]
  simp only [eqGuard_at_pointer, Sem.run_bind, Sem.run_pure, Result.andThen_ok, run_neq_pointer_nil w' t q hp']
  try cases q <;> rfl

theorem nBinPtr_ok {tl : Tab} (htl : TabOk P tl) {op : BinOp} {t : TypeId} {ox oy : Operand} {x y v : V} {u z : Value} {c : Bool}
    (h : (match op, kd tl t, nEqNil H x y with
      | .eql, some (.ptr _), some b => some (V.at (.raw (.bool b)), true)
      | .neq, some (.ptr _), some b => some (V.at (.raw (.bool (!b))), true)
      | _, _, _ => none) = some (v, c)) (hx : VRel ρ H x u) (hy : VRel ρ H y z) :
    ∃ r, VRel ρ H v r ∧ ∀ w' : World, (do eqGuard op t ox oy u z; binOp op t u z : Sem Value).run P w' = .ok r w' := by
  split at h
  · rename_i e b hk hn
    cases h
    obtain ⟨rfl, q, rfl, rfl⟩ := nEqNil_ok hn hx hy
    exact ⟨_, rfl, ptrEql_run htl hk ox oy q⟩
  · rename_i e b hk hn
    cases h
    obtain ⟨rfl, q, rfl, rfl⟩ := nEqNil_ok hn hx hy
    exact ⟨_, rfl, ptrNeq_run htl hk ox oy q⟩
  · cases h

theorem nBin_ok {tl : Tab} (htl : TabOk P tl) {op : BinOp} {t : TypeId} {ox oy : Operand} {x y v : V} {u z : Value} {c : Bool} (h : nBin H tl op t x y = some (v, c)) (hc : c = true) (hx : VRel ρ H x u) (hy : VRel ρ H y z) :
    ∃ r, VRel ρ H v r ∧ ∀ w' : World, (do eqGuard op t ox oy u z; binOp op t u z : Sem Value).run P w' = .ok r w' := by
  unfold nBin at h
  split at h
  · rename_i a b
    simp only [VRel, ARel] at hx hy
    subst hx hy
    split at h
    · rename_i hk
      have hu : P.underlying t = some .bool := kd_ok htl hk
      cases h
      exact ⟨_, rfl, fun w' => by simp [eqGuard_at_bool, run_eql_bool w' t a b hu]⟩
    · rename_i hk
      have hu : P.underlying t = some .bool := kd_ok htl hk
      cases h
      exact ⟨_, rfl, fun w' => by simp [eqGuard_at_bool, run_neq_bool w' t a b hu]⟩
    · cases h
  · exact nBinPtr_ok htl h hx hy
  · exact nBinPtr_ok htl h hx hy
  · rename_i a b _ _
    simp only [VRel, ARel] at hx hy
    subst hx hy
    split at h
    · rename_i r c' hb
      cases h
      exact ⟨r, rfl, fun w' => binR_run hb hc t ox oy w'⟩
    · cases h
  · cases h

theorem findNow_ok {kk : IntKind} {n : Int} : ∀ (es : List MapEntry) (ks : List Int) (j : Nat), es.length = ks.length → (∀ (i : Nat) (e : MapEntry), es[i]? = some e → e.key = .int kk (ks.getD i 0)) →
    (mhas ks n = false ∧ Instr.findNow (.int kk) (.int kk n) es j = some none) ∨
    (mhas ks n = true ∧ ∃ i e, es[i]? = some e ∧ Instr.findNow (.int kk) (.int kk n) es j = some (some (j + i, e.val)) ∧ ∀ {α : Type} (d : α) (l : List α), l.length = ks.length → mget d ks l n = l.getD i d) := by
  intro es
  induction es with
  | nil => intro ks j hl _; cases ks with | nil => exact .inl ⟨rfl, rfl⟩ | cons k ks => cases hl
  | cons e es ih =>
    intro ks j hl hk
    cases ks with
    | nil => cases hl
    | cons k ks =>
      have h0 : e.key = .int kk k := hk 0 e rfl
      by_cases hn : k = n
      · subst hn
        refine .inr ⟨by simp [mhas], 0, e, rfl, ?_, fun d l hl' => ?_⟩
        · simp [Instr.findNow, h0, Instr.sameNow]
        · cases l with | nil => cases hl' | cons v l => simp [mget]
      · have hb : (k == n) = false := by simpa using hn
        have hb' : (n == k) = false := by simpa using fun h => hn h.symm
        rcases ih ks (j + 1) (by simpa using hl) (fun i e' he' => by have := hk (i + 1) e' (by simpa using he'); simpa using this) with ⟨h1, h2⟩ | ⟨h1, i, e', he', h2, h3⟩
        · exact .inl ⟨by simp [mhas, hb, h1], by simp [Instr.findNow, h0, Instr.sameNow, hb', h2]⟩
        · refine .inr ⟨by simp [mhas, hb, h1], i + 1, e', by simpa using he', by simp [Instr.findNow, h0, Instr.sameNow, hb', h2]; omega, fun d l hl' => ?_⟩
          cases l with
          | nil => cases hl'
          | cons v l => simp [mget, hb, h3 d l (by simpa using hl')]

theorem mget_none {α : Type} (d : α) : ∀ (ks : List Int) (l : List α) (n : Int), mhas ks n = false → mget d ks l n = d
  | [], _, _, _ => by simp [mget]
  | k :: ks, [], _, _ => by simp [mget]
  | k :: ks, v :: l, n, h => by
    simp only [mhas] at h
    cases hb : (k == n) with
    | true => rw [hb] at h; cases h
    | false => rw [hb] at h; simp only [mget, hb, cond_false]; exact mget_none d ks l n h

/-- A look-up in a map, as the model makes it. -/
theorem lookup_run {t kt et : TypeId} {kk : IntKind} {n : Int} {ok : Bool} {zero : Value} {es : Array MapEntry} {clock : Nat} {b : Nat} {ks : List Int} {w' : World}
    (hu : P.underlying t = some (.map kt et)) (hk : P.underlying kt = some (.int kk)) (hz : (zeroValue et).run P w' = .ok zero w') (hb : w'.heap[b]? = some (.map es clock))
    (hl : es.size = ks.length) (hkeys : ∀ (i : Nat) (e : MapEntry), es[i]? = some e → e.key = .int kk (ks.getD i 0)) :
    ∃ val, (Instr.lookup t (.map (some b)) (.int kk n) ok).run P w' = .ok (if ok then .tuple #[val, .bool (mhas ks n)] else val) w' ∧
      ((mhas ks n = false ∧ val = zero) ∨ ∃ i e, es[i]? = some e ∧ val = e.val ∧ ∀ {α : Type} (d : α) (l : List α), l.length = ks.length → mget d ks l n = l.getD i d) := by
  have hg : (getObj b).run P w' = .ok (.map es clock) w' := by simp [getObj, Sem.run, hb]
  have hck1 : ∀ x d, (Instr.checkKey x (d + 1) kt (.int kk n)).run P w' = .ok () w' := fun x d => by simp [Instr.checkKey, run_underlying hk]
  have hck : ∀ x, (Instr.checkKey x 10000 kt (.int kk n)).run P w' = .ok () w' := fun x => hck1 x 9999
  have hf := findNow_ok (kk := kk) (n := n) es.toList ks 0 (by simpa using hl) (fun i e he => hkeys i e (by simpa using he))
  rcases hf with ⟨h1, h2⟩ | ⟨h1, i, e, he, h2, h3⟩
  · refine ⟨zero, ?_, .inl ⟨h1, rfl⟩⟩
    have hfk : (Instr.findKey kt (.int kk n) es.toList).run P w' = .ok none w' := by simp [Instr.findKey, run_underlying hk, h2]
    simp only [Instr.lookup, Sem.run_bind, run_underlying hu, Result.andThen_ok, hg, Sem.run_pure, hck, hfk, hz, h1]
  · refine ⟨e.val, ?_, .inr ⟨i, e, by simpa using he, rfl, h3⟩⟩
    have hfk : (Instr.findKey kt (.int kk n) es.toList).run P w' = .ok (some (0 + i, e.val)) w' := by simp [Instr.findKey, run_underlying hk, h2]
    simp only [Instr.lookup, Sem.run_bind, run_underlying hu, Result.andThen_ok, hg, Sem.run_pure, hck, hfk, h1]

theorem TiOk.zero_run {t : Nat} {ti : TI} (h : TiOk P t ti) : ∃ z, z.cells.toList = ti.zero ∧ (ti.kind.isAgg = some false → ti.zero = [z]) ∧ ∀ w : World, (zeroValue t).run P w = .ok z w := by
  obtain ⟨i, z, hi, _, _, hz, hc, h1⟩ := h.parts
  exact ⟨z, hc, h1, fun w => by simp [zeroValue, typeInfo, hi, hz]⟩

def zeroInt (tl : Tab) (t : Nat) (k : IntKind) : Bool :=
  match lk tl t with
  | some { kind := .int k', zero := [.int k'' n], .. } => decide (k' = k) && decide (k'' = k) && decide (n = 0)
  | _ => false
def zeroStr (tl : Tab) (t : Nat) : Bool :=
  match lk tl t with
  | some { kind := .str, zero := [.string s], .. } => Nat.beq s.size 0
  | _ => false
def zeroBool (tl : Tab) (t : Nat) : Bool :=
  match lk tl t with
  | some { kind := .bool, zero := [.bool b], .. } => !b
  | _ => false
theorem zeroInt_ok {tl : Tab} (htl : TabOk P tl) {t : Nat} {k : IntKind} (h : zeroInt tl t k = true) (w : World) : (zeroValue t).run P w = .ok (.int k 0) w := by
  unfold zeroInt at h
  split at h
  · rename_i k' sz bs k'' n hl
    simp only [Bool.and_eq_true, decide_eq_true_eq] at h
    obtain ⟨⟨rfl, rfl⟩, rfl⟩ := h
    obtain ⟨z, hz, h1, hr⟩ := (htl t _ hl).zero_run
    have := h1 rfl
    simp only [List.cons.injEq, and_true] at this
    rw [hr, ← this]
  · cases h
theorem bytes_empty {s : ByteArray} (h : s.size = 0) : s = ByteArray.empty := by
  apply ByteArray.ext
  exact Array.eq_empty_of_size_eq_zero h
theorem zeroStr_ok {tl : Tab} (htl : TabOk P tl) {t : Nat} (h : zeroStr tl t = true) (w : World) : (zeroValue t).run P w = .ok (.string ByteArray.empty) w := by
  unfold zeroStr at h
  split at h
  · rename_i sz bs s hl
    obtain ⟨z, hz, h1, hr⟩ := (htl t _ hl).zero_run
    have := h1 rfl
    simp only [List.cons.injEq, and_true] at this
    rw [hr, ← this, bytes_empty (Nat.eq_of_beq_eq_true h)]
  · cases h
theorem zeroBool_ok {tl : Tab} (htl : TabOk P tl) {t : Nat} (h : zeroBool tl t = true) (w : World) : (zeroValue t).run P w = .ok (.bool false) w := by
  unfold zeroBool at h
  split at h
  · rename_i sz bs b hl
    obtain ⟨z, hz, h1, hr⟩ := (htl t _ hl).zero_run
    have := h1 rfl
    simp only [List.cons.injEq, and_true] at this
    rw [hr, ← this]
    cases b with
    | true => cases h
    | false => rfl
  · cases h

def nLookup (H : Heap) (tl : Tab) (t : TypeId) (m k : V) (ok : Bool) : Option V :=
  match kd tl t, m, k with
  | some (.map kt et), .at (.map id), .at (.raw (.int kk n)) =>
    match kd tl kt, H[id]? with
    | some (.int k1), some (.map k3 ks (.int k4 l)) =>
      bif decide (k1 = kk) && decide (k3 = kk) && zeroInt tl et k4 then
        some (bif ok then .tup [.at (.raw (.int k4 (mget 0 ks l n))), .at (.raw (.bool (mhas ks n)))] else .at (.raw (.int k4 (mget 0 ks l n))))
      else none
    | some (.int k1), some (.map k3 ks (.bool l)) =>
      bif decide (k1 = kk) && decide (k3 = kk) && zeroBool tl et then
        some (bif ok then .tup [.at (.raw (.bool (mget false ks l n))), .at (.raw (.bool (mhas ks n)))] else .at (.raw (.bool (mget false ks l n))))
      else none
    | some (.int k1), some (.map k3 ks (.str l)) =>
      bif decide (k1 = kk) && decide (k3 = kk) && zeroStr tl et then
        some (bif ok then .tup [.at (.raw (.string (mget ByteArray.empty ks l n))), .at (.raw (.bool (mhas ks n)))] else .at (.raw (.string (mget ByteArray.empty ks l n))))
      else none
    | _, _ => none
  | _, _, _ => none

theorem nLookup_ok {tl : Tab} (htl : TabOk P tl) (hr : HRead ρ H w) {t : TypeId} {m k v : V} {ok : Bool} {u z : Value} (h : nLookup H tl t m k ok = some v) (hm : VRel ρ H m u) (hk : VRel ρ H k z) :
    ∃ y, VRel ρ H v y ∧ ∀ w' : World, HSame ρ H (idsV m) w w' → (Instr.lookup t u z ok).run P w' = .ok y w' := by
  unfold nLookup at h
  split at h
  · rename_i kt et id kk n hti
    have hu : P.underlying t = some (.map kt et) := kd_ok htl hti
    simp only [VRel, ARel] at hk
    subst hk
    split at h
    · rename_i k1 k3 ks k4 l hkt hid
      cases hb : (decide (k1 = kk) && decide (k3 = kk) && zeroInt tl et k4) with
      | false => rw [hb] at h; cases h
      | true =>
        rw [hb] at h
        simp only [Bool.and_eq_true, decide_eq_true_eq] at hb
        obtain ⟨⟨rfl, rfl⟩, hz⟩ := hb
        have hk1 : P.underlying kt = some (.int k3) := kd_ok htl hkt
        obtain ⟨p, hp, h1, h2, es, clock, h3, h4, h5, _⟩ := hr.at hid
        have hu' : u = .map (some p.blk) := by
          rcases hm with hm | ⟨q, hq, hm⟩
          · rw [Gone, hid] at hm; cases hm
          · rw [hp] at hq; cases hq; exact hm
        subst hu'
        obtain ⟨val, -, hval⟩ := lookup_run (P := P) (ok := ok) (n := n) (w' := w) hu hk1 (zeroInt_ok htl hz w) h3 h4 (fun i e he => (h5 i e he).1)
        have hv : ∀ w' : World, HSame ρ H [id] w w' → (Instr.lookup t (.map (some p.blk)) (.int k3 n) ok).run P w' = .ok (if ok then .tuple #[.int k4 (mget 0 ks l n), .bool (mhas ks n)] else .int k4 (mget 0 ks l n)) w' := by
          intro w' hw
          obtain ⟨val, hrun, hval⟩ := lookup_run (P := P) (ok := ok) (n := n) (w' := w') hu hk1 (zeroInt_ok htl hz w') (by rw [hw id (by simp) _ _ hp hid rfl h1]; exact h3) h4 (fun i e he => (h5 i e he).1)
          have : val = .int k4 (mget 0 ks l n) := by
            rcases hval with ⟨hh, rfl⟩ | ⟨i, e, he, rfl, hg⟩
            · rw [mget_none _ _ _ _ hh]
            · have := (h5 i e he).2.1
              simp only [Col.at, ARel] at this
              rw [this, hg 0 l h2]
          rw [hrun, this]
        cases ok with
        | true =>
          cases h
          exact ⟨_, ⟨[_, _], rfl, rfl, fun j x v hx hv => by
            match j with
            | 0 => simp at hx hv; subst hx hv; rfl
            | 1 => simp at hx hv; subst hx hv; rfl
            | j + 2 => simp at hx⟩, hv⟩
        | false => cases h; exact ⟨_, rfl, hv⟩
    · rename_i k1 k3 ks l hkt hid
      cases hb : (decide (k1 = kk) && decide (k3 = kk) && zeroBool tl et) with
      | false => rw [hb] at h; cases h
      | true =>
        rw [hb] at h
        simp only [Bool.and_eq_true, decide_eq_true_eq] at hb
        obtain ⟨⟨rfl, rfl⟩, hz⟩ := hb
        have hk1 : P.underlying kt = some (.int k3) := kd_ok htl hkt
        obtain ⟨p, hp, h1, h2, es, clock, h3, h4, h5, _⟩ := hr.at hid
        have hu' : u = .map (some p.blk) := by
          rcases hm with hm | ⟨q, hq, hm⟩
          · rw [Gone, hid] at hm; cases hm
          · rw [hp] at hq; cases hq; exact hm
        subst hu'
        have hv : ∀ w' : World, HSame ρ H [id] w w' → (Instr.lookup t (.map (some p.blk)) (.int k3 n) ok).run P w' = .ok (if ok then .tuple #[.bool (mget false ks l n), .bool (mhas ks n)] else .bool (mget false ks l n)) w' := by
          intro w' hw
          obtain ⟨val, hrun, hval⟩ := lookup_run (P := P) (ok := ok) (n := n) (w' := w') hu hk1 (zeroBool_ok htl hz w') (by rw [hw id (by simp) _ _ hp hid rfl h1]; exact h3) h4 (fun i e he => (h5 i e he).1)
          have : val = .bool (mget false ks l n) := by
            rcases hval with ⟨hh, rfl⟩ | ⟨i, e, he, rfl, hg⟩
            · rw [mget_none _ _ _ _ hh]
            · have := (h5 i e he).2.1
              simp only [Col.at, ARel] at this
              rw [this, hg false l h2]
          rw [hrun, this]
        cases ok with
        | true =>
          cases h
          exact ⟨_, ⟨[_, _], rfl, rfl, fun j x v hx hv => by
            match j with
            | 0 => simp at hx hv; subst hx hv; rfl
            | 1 => simp at hx hv; subst hx hv; rfl
            | j + 2 => simp at hx⟩, hv⟩
        | false => cases h; exact ⟨_, rfl, hv⟩
    · rename_i k1 k3 ks l hkt hid
      cases hb : (decide (k1 = kk) && decide (k3 = kk) && zeroStr tl et) with
      | false => rw [hb] at h; cases h
      | true =>
        rw [hb] at h
        simp only [Bool.and_eq_true, decide_eq_true_eq] at hb
        obtain ⟨⟨rfl, rfl⟩, hz⟩ := hb
        have hk1 : P.underlying kt = some (.int k3) := kd_ok htl hkt
        obtain ⟨p, hp, h1, h2, es, clock, h3, h4, h5, _⟩ := hr.at hid
        have hu' : u = .map (some p.blk) := by
          rcases hm with hm | ⟨q, hq, hm⟩
          · rw [Gone, hid] at hm; cases hm
          · rw [hp] at hq; cases hq; exact hm
        subst hu'
        have hv : ∀ w' : World, HSame ρ H [id] w w' → (Instr.lookup t (.map (some p.blk)) (.int k3 n) ok).run P w' = .ok (if ok then .tuple #[.string (mget ByteArray.empty ks l n), .bool (mhas ks n)] else .string (mget ByteArray.empty ks l n)) w' := by
          intro w' hw
          obtain ⟨val, hrun, hval⟩ := lookup_run (P := P) (ok := ok) (n := n) (w' := w') hu hk1 (zeroStr_ok htl hz w') (by rw [hw id (by simp) _ _ hp hid rfl h1]; exact h3) h4 (fun i e he => (h5 i e he).1)
          have : val = .string (mget ByteArray.empty ks l n) := by
            rcases hval with ⟨hh, rfl⟩ | ⟨i, e, he, rfl, hg⟩
            · rw [mget_none _ _ _ _ hh]
            · have := (h5 i e he).2.1
              simp only [Col.at, ARel] at this
              rw [this, hg ByteArray.empty l h2]
          rw [hrun, this]
        cases ok with
        | true =>
          cases h
          exact ⟨_, ⟨[_, _], rfl, rfl, fun j x v hx hv => by
            match j with
            | 0 => simp at hx hv; subst hx hv; rfl
            | 1 => simp at hx hv; subst hx hv; rfl
            | j + 2 => simp at hx⟩, hv⟩
        | false => cases h; exact ⟨_, rfl, hv⟩
    · cases h
  · cases h
end
end Go.Sx

namespace Go.Sx
open Go

section
variable {P : Program} {E : Nat → Prop} {w0 w w' : World} {ρ : List Pl} {H : Heap}

theorem Ext.push (h : ρ.length = H.length) (pl : Pl) (o : AObj) : Ext ρ H (ρ ++ [pl]) (H ++ [o]) := by
  refine ⟨fun i p hp => ?_, fun i hg => ?_⟩
  · rw [List.getElem?_append_left (List.getElem?_eq_some_iff.1 hp).1]; exact hp
  · unfold Gone at hg ⊢
    rw [List.getElem?_append_left (List.getElem?_eq_some_iff.1 hg).1]; exact hg

theorem Ext.set {id : Nat} {o o' : AObj} (ho : H[id]? = some o) (hd : o.isDead = false) : Ext ρ H ρ (H.set id o') := by
  refine ⟨fun i p hp => hp, fun i hg => ?_⟩
  unfold Gone at hg ⊢
  rw [List.getElem?_set]
  split
  · rename_i e; subst e; rw [ho] at hg; cases hg; cases hd
  · exact hg

theorem Ext.kill {id : Nat} : Ext ρ H ρ (H.set id .dead) := by
  refine ⟨fun i p hp => hp, fun i hg => ?_⟩
  unfold Gone at hg ⊢
  rw [List.getElem?_set]
  split
  · rename_i e; subst e; simp [(List.getElem?_eq_some_iff.1 hg).1]
  · exact hg

theorem real_lt {p : Pl} {o : AObj} (hr : p.real = true) (hd : o.isDead = false) (h : ObjRel ρ H w p o) : p.blk < w.heap.size := by
  have key : ∀ {x : Obj}, w.heap[p.blk]? = some x → p.blk < w.heap.size := fun hx => (Array.getElem?_eq_some_iff.1 hx).1
  cases o with
  | dead => cases hd
  | cells t cs => obtain ⟨_, _, cur, hc, _⟩ := h; exact key hc
  | row e sz n cols => obtain ⟨cur, hc, _⟩ := h.2 hr; exact key hc
  | ro e sz n cols => obtain ⟨cur, t, fz, hc, _⟩ := h.2 hr; exact key hc
  | map kt ks col => obtain ⟨_, _, es, clock, hc, _⟩ := h; exact key hc

/-- A new object in a new block. -/
theorem HRel.push (h : HRel E w0 ρ H w) {pl : Pl} {o : AObj} (hos : w'.os = w.os) (htp : w'.tape = w.tape) (hou : w'.output = w.output)
    (hsz : w.heap.size ≤ w'.heap.size) (hold : ∀ k, k < w.heap.size → w'.heap[k]? = w.heap[k]?)
    (hpl : pl.real = true → w.heap.size ≤ pl.blk) (ho : ObjRel (ρ ++ [pl]) (H ++ [o]) w' pl o) : HRel E w0 (ρ ++ [pl]) (H ++ [o]) w' := by
  have hx := Ext.push h.len pl o
  have hlen := h.len
  have old : ∀ (i : Nat) (p : Pl) (q : AObj), (ρ ++ [pl])[i]? = some p → (H ++ [o])[i]? = some q → (ρ[i]? = some p ∧ H[i]? = some q) ∨ (i = H.length ∧ p = pl ∧ q = o) := by
    intro i p q hp hq
    by_cases hi : i < H.length
    · rw [List.getElem?_append_left (by omega)] at hp
      rw [List.getElem?_append_left hi] at hq
      exact .inl ⟨hp, hq⟩
    · have : i < (H ++ [o]).length := (List.getElem?_eq_some_iff.1 hq).1
      simp at this
      have e : i = H.length := by omega
      subst e
      rw [← hlen, List.getElem?_append_right (Nat.le_refl _)] at hp
      rw [List.getElem?_append_right (Nat.le_refl _)] at hq
      simp at hp hq
      exact .inr ⟨rfl, hp.symm, hq.symm⟩
  refine ⟨by simp [hlen], ?_, ?_, ?_, ?_⟩
  · intro i p q hp hq
    rcases old i p q hp hq with ⟨hp, hq⟩ | ⟨_, rfl, rfl⟩
    · have hob := h.obj i p q hp hq
      cases hr : p.real with
      | false => exact hob.virt hx hr
      | true =>
        cases hd : q.isDead with
        | true => cases q <;> first | (cases hd; done) | trivial
        | false => exact hob.ext hx (hold _ (real_lt hr hd hob))
    · exact ho
  · intro i j p q o1 o2 hp hq h1 h2 hm hd hpr hqr hij
    rcases old i p o1 hp h1 with ⟨hp', h1'⟩ | ⟨hi, rfl, rfl⟩ <;> rcases old j q o2 hq h2 with ⟨hq', h2'⟩ | ⟨hj, rfl, rfl⟩
    · exact h.inj i j p q o1 o2 hp' hq' h1' h2' hm hd hpr hqr hij
    · have := real_lt hpr (by cases o1 <;> first | rfl | cases hm) (h.obj i p o1 hp' h1'); have := hpl hqr; omega
    · have := real_lt hqr hd (h.obj j q o2 hq' h2'); have := hpl hpr; omega
    · omega
  · intro i p q hp hq hm hr
    rcases old i p q hp hq with ⟨hp, hq⟩ | ⟨_, rfl, rfl⟩
    · exact h.own i p q hp hq hm hr
    · right; have := hpl hr; have := h.kept.size; omega
  · refine ⟨hos.trans h.kept.os, htp.trans h.kept.tape, hou.trans h.kept.output, Nat.le_trans h.kept.size hsz, fun k hk he => ?_⟩
    exact (hold k (Nat.lt_of_lt_of_le hk h.kept.size)).trans (h.kept.block k hk he)

/-- A virtual row: no block, no turn of the world. -/
theorem HRel.virtual (h : HRel E w0 ρ H w) {pl : Pl} {o : AObj} (hpl : pl.real = false) (ho : ObjRel (ρ ++ [pl]) (H ++ [o]) w pl o) : HRel E w0 (ρ ++ [pl]) (H ++ [o]) w :=
  h.push rfl rfl rfl (Nat.le_refl _) (fun _ _ => rfl) (by simp [hpl]) ho

/-- Object number id is written: its block alone is another. -/
theorem HRel.set (h : HRel E w0 ρ H w) {id : Nat} {p : Pl} {o o' : AObj} (hp : ρ[id]? = some p) (ho : H[id]? = some o) (hm : o.mut = true) (hm' : o'.mut = true) (hr : p.real = true)
    (hos : w'.os = w.os) (htp : w'.tape = w.tape) (hou : w'.output = w.output) (hsz : w'.heap.size = w.heap.size) (hold : ∀ k, k ≠ p.blk → w'.heap[k]? = w.heap[k]?)
    (hn : ObjRel ρ (H.set id o') w' p o') : HRel E w0 ρ (H.set id o') w' := by
  have hd : o.isDead = false := by cases o <;> first | rfl | cases hm
  have hd' : o'.isDead = false := by cases o' <;> first | rfl | cases hm'
  have hx : Ext ρ H ρ (H.set id o') := Ext.set ho hd
  have get : ∀ (i : Nat) (q : AObj), (H.set id o')[i]? = some q → (i = id ∧ q = o') ∨ (i ≠ id ∧ H[i]? = some q) := by
    intro i q hq
    rw [List.getElem?_set] at hq
    split at hq
    · rename_i e; subst e; simp [(List.getElem?_eq_some_iff.1 ho).1] at hq; exact .inl ⟨rfl, hq.symm⟩
    · rename_i e; exact .inr ⟨fun e' => e e'.symm, hq⟩
  refine ⟨by simp [h.len], ?_, ?_, ?_, ?_⟩
  · intro i q x hq hx'
    rcases get i x hx' with ⟨rfl, rfl⟩ | ⟨hne, hi⟩
    · rw [hp] at hq; cases hq; exact hn
    · have hob := h.obj i q x hq hi
      cases hqr : q.real with
      | false => exact hob.virt hx hqr
      | true =>
        cases hxd : x.isDead with
        | true => cases x <;> first | (cases hxd; done) | trivial
        | false =>
          refine hob.ext hx (hold _ fun e => ?_)
          exact h.inj id i p q o x hp hq ho hi hm hxd hr hqr (fun e => hne e.symm) e.symm
  · intro i j q r o1 o2 hq hrr h1 h2 hmm hdd hqr hrr' hij
    have m1 : ∃ o1', H[i]? = some o1' ∧ o1'.mut = true := by
      rcases get i o1 h1 with ⟨rfl, rfl⟩ | ⟨_, h1'⟩
      · exact ⟨o, ho, hm⟩
      · exact ⟨o1, h1', hmm⟩
    have m2 : ∃ o2', H[j]? = some o2' ∧ o2'.isDead = false := by
      rcases get j o2 h2 with ⟨rfl, rfl⟩ | ⟨_, h2'⟩
      · exact ⟨o, ho, hd⟩
      · exact ⟨o2, h2', hdd⟩
    obtain ⟨o1', h1', hm1⟩ := m1
    obtain ⟨o2', h2', hd2⟩ := m2
    exact h.inj i j q r o1' o2' hq hrr h1' h2' hm1 hd2 hqr hrr' hij
  · intro i q x hq hx' hmx hqr
    rcases get i x hx' with ⟨rfl, rfl⟩ | ⟨_, hi⟩
    · rw [hp] at hq; cases hq; exact h.own i p o hp ho hm hr
    · exact h.own i q x hq hi hmx hqr
  · refine ⟨hos.trans h.kept.os, htp.trans h.kept.tape, hou.trans h.kept.output, by rw [hsz]; exact h.kept.size, fun k hk he => ?_⟩
    have hne : k ≠ p.blk := by
      rintro rfl
      rcases h.own id p o hp ho hm hr with h1 | h1
      · exact he h1
      · omega
    exact (hold k hne).trans (h.kept.block k hk he)

/-- An object is given up. -/
theorem HRel.kill (h : HRel E w0 ρ H w) (id : Nat) : HRel E w0 ρ (H.set id .dead) w := by
  have hx : Ext ρ H ρ (H.set id .dead) := Ext.kill
  have get : ∀ (i : Nat) (q : AObj), (H.set id .dead)[i]? = some q → q = .dead ∨ (i ≠ id ∧ H[i]? = some q) := by
    intro i q hq
    rw [List.getElem?_set] at hq
    split at hq
    · rename_i e
      split at hq
      · exact .inl (by simpa using hq.symm)
      · cases hq
    · rename_i e; exact .inr ⟨fun e' => e e'.symm, hq⟩
  refine ⟨by simp [h.len], ?_, ?_, ?_, h.kept⟩
  · intro i q x hq hx'
    rcases get i x hx' with rfl | ⟨hne, hi⟩
    · trivial
    · exact (h.obj i q x hq hi).ext hx rfl
  · intro i j q r o1 o2 hq hrr h1 h2 hmm hdd hqr hrr' hij
    rcases get i o1 h1 with rfl | ⟨_, h1'⟩
    · cases hmm
    rcases get j o2 h2 with rfl | ⟨_, h2'⟩
    · cases hdd
    exact h.inj i j q r o1 o2 hq hrr h1' h2' hmm hdd hqr hrr' hij
  · intro i q x hq hx' hmx hqr
    rcases get i x hx' with rfl | ⟨_, hi⟩
    · cases hmx
    · exact h.own i q x hq hi hmx hqr

/-- A mutable row is given up, and a new object takes its block over. -/
theorem HRel.take (h : HRel E w0 ρ H w) {id : Nat} {p pl : Pl} {o o' : AObj} (hp : ρ[id]? = some p) (ho : H[id]? = some o) (hm : o.mut = true) (hr : p.real = true) (hb : pl.blk = p.blk)
    (hos : w'.os = w.os) (htp : w'.tape = w.tape) (hou : w'.output = w.output) (hsz : w'.heap.size = w.heap.size) (hold : ∀ k, k ≠ p.blk → w'.heap[k]? = w.heap[k]?)
    (hn : ObjRel (ρ ++ [pl]) (H.set id .dead ++ [o']) w' pl o') : HRel E w0 (ρ ++ [pl]) (H.set id .dead ++ [o']) w' := by
  have hx : Ext ρ H (ρ ++ [pl]) (H.set id .dead ++ [o']) := Ext.kill.trans (Ext.push (by simp [h.len]) pl o')
  have hlen := h.len
  have old : ∀ (i : Nat) (q : Pl) (x : AObj), (ρ ++ [pl])[i]? = some q → (H.set id .dead ++ [o'])[i]? = some x → (x = .dead ∨ (i ≠ id ∧ ρ[i]? = some q ∧ H[i]? = some x)) ∨ (i = H.length ∧ q = pl ∧ x = o') := by
    intro i q x hq hx'
    by_cases hi : i < H.length
    · rw [List.getElem?_append_left (by omega)] at hq
      rw [List.getElem?_append_left (by simpa using hi), List.getElem?_set] at hx'
      left
      split at hx'
      · split at hx'
        · exact .inl (by simpa using hx'.symm)
        · cases hx'
      · rename_i e; exact .inr ⟨fun e' => e e'.symm, hq, hx'⟩
    · have : i < (H.set id .dead ++ [o']).length := (List.getElem?_eq_some_iff.1 hx').1
      simp at this
      have e : i = H.length := by omega
      subst e
      rw [← hlen, List.getElem?_append_right (Nat.le_refl _)] at hq
      rw [List.getElem?_append_right (by simp)] at hx'
      simp at hq hx'
      exact .inr ⟨rfl, hq.symm, hx'.symm⟩
  refine ⟨by simp [hlen], ?_, ?_, ?_, ?_⟩
  · intro i q x hq hx'
    rcases old i q x hq hx' with (rfl | ⟨hne, hq, hi⟩) | ⟨_, rfl, rfl⟩
    · trivial
    · have hob := h.obj i q x hq hi
      cases hqr : q.real with
      | false => exact hob.virt hx hqr
      | true =>
        cases hxd : x.isDead with
        | true => cases x <;> first | (cases hxd; done) | trivial
        | false =>
          refine hob.ext hx (hold _ fun e => ?_)
          exact h.inj id i p q o x hp hq ho hi hm hxd hr hqr (fun e => hne e.symm) e.symm
    · exact hn
  · intro i j q r o1 o2 hq hrr h1 h2 hmm hdd hqr hrr' hij
    rcases old i q o1 hq h1 with (rfl | ⟨hne, hq', h1'⟩) | ⟨hi, rfl, rfl⟩ <;> rcases old j r o2 hrr h2 with (rfl | ⟨hne2, hr2, h2'⟩) | ⟨hj, rfl, rfl⟩
    · cases hmm
    · cases hmm
    · cases hmm
    · cases hdd
    · exact h.inj i j q r o1 o2 hq' hr2 h1' h2' hmm hdd hqr hrr' hij
    · rw [hb]; exact h.inj i id q p o1 o hq' hp h1' ho hmm (by cases o <;> first | rfl | cases hm) hqr hr hne
    · cases hdd
    · rw [hb]; exact h.inj id j p r o o2 hp hr2 ho h2' hm hdd hr hrr' (fun e => hne2 e.symm)
    · omega
  · intro i q x hq hx' hmx hqr
    rcases old i q x hq hx' with (rfl | ⟨hne, hq, hi⟩) | ⟨_, rfl, rfl⟩
    · cases hmx
    · exact h.own i q x hq hi hmx hqr
    · rw [hb]; exact h.own id p o hp ho hm hr
  · refine ⟨hos.trans h.kept.os, htp.trans h.kept.tape, hou.trans h.kept.output, by rw [hsz]; exact h.kept.size, fun k hk he => ?_⟩
    have hne : k ≠ p.blk := by
      rintro rfl
      rcases h.own id p o hp ho hm hr with h1 | h1
      · exact he h1
      · omega
    exact (hold k hne).trans (h.kept.block k hk he)
end
end Go.Sx

namespace Go.Sx
open Go

/-- An atom that is one cell's value. -/
def okA (H : Heap) : A → Bool
  | .raw v => v.oneCell'
  | .ptr id _ => alive H id
  | .eptr id _ _ _ => alive H id
  | .sl id _ _ _ => alive H id
  | .map id => alive H id
  | .fn _ caps => caps.all fun c => alive H c.1
  | .iface _ id _ => alive H id
  | .junk => false
def asOf : V → Option (List A)
  | .at a => some [a]
  | .agg as => some as
  | .tup _ => none

section
variable {P : Program} {E : Nat → Prop} {w0 w : World} {ρ : List Pl} {H : Heap}

theorem okA_one {a : A} {u : Value} (h : okA H a = true) (ha : ARel ρ H a u) : u.oneCell' = true := by
  cases a with
  | raw v => simp only [ARel] at ha; subst ha; exact h
  | ptr id o => obtain ⟨p, _, rfl⟩ := ha.resolve_left (not_gone h); rfl
  | eptr id sz i f => obtain ⟨p, _, rfl⟩ := ha.resolve_left (not_gone h); rfl
  | sl id sz off len =>
    obtain ⟨p, _, _, _, _, hs⟩ := ha.resolve_left (not_gone h)
    rcases hs with ⟨_, a, rfl, _⟩ | ⟨_, _, oa, rfl⟩ <;> rfl
  | map id => obtain ⟨p, _, rfl⟩ := ha.resolve_left (not_gone h); rfl
  | fn f caps =>
    have hn : ¬ ∃ c ∈ caps, Gone H c.1 := by
      rintro ⟨c, hc, hg⟩
      exact not_gone (List.all_eq_true.1 h c hc) hg
    obtain ⟨vs, rfl, _⟩ := ha.resolve_left hn
    rfl
  | iface t id o => obtain ⟨p, _, rfl⟩ := ha.resolve_left (not_gone h); rfl
  | junk => cases h
theorem cells_one {u : Value} (h : u.oneCell' = true) : u.cells = #[u] := by cases u <;> first | rfl | cases h

theorem asOf_rel {x : V} {as : List A} {u : Value} (h : asOf x = some as) (hok : as.all (okA H) = true) (hx : VRel ρ H x u) : AsRel ρ H as u.cells.toList ∧ ∀ v ∈ u.cells.toList, v.oneCell' = true := by
  cases x with
  | «at» a =>
    simp only [asOf, Option.some.injEq] at h
    subst h
    simp only [List.all_cons, List.all_nil, Bool.and_true] at hok
    have h1 := okA_one hok hx
    rw [cells_one h1]
    refine ⟨⟨rfl, fun j a' v ha hv => ?_⟩, by simpa using h1⟩
    match j with
    | 0 => simp at ha hv; subst ha hv; exact hx
    | j + 1 => simp at ha
  | agg as' =>
    simp only [asOf, Option.some.injEq] at h
    subst h
    obtain ⟨vs, rfl, hv⟩ := hx
    refine ⟨by simpa [Value.cells] using hv, fun v hm => ?_⟩
    simp only [Value.cells] at hm
    obtain ⟨j, hj, rfl⟩ := List.getElem_of_mem hm
    have hj' : j < as'.length := by rw [← hv.1]; exact hj
    exact okA_one (List.all_eq_true.1 hok _ (List.getElem_mem hj')) (hv.2 j _ _ (List.getElem?_eq_getElem hj') (List.getElem?_eq_getElem hj))
  | tup xs => cases h

def EOk (P : Program) (E : Nat → Prop) (w0 w : World) (ρ : List Pl) (H : Heap) (s : Sem Value) (v : V) (H' : Heap) : Prop :=
  ∃ u w' ρ', s.run P w = .ok u w' ∧ Ext ρ H ρ' H' ∧ HRel E w0 ρ' H' w' ∧ VRel ρ' H' v u

theorem push_cells (hr : HRel E w0 ρ H w) {t : TypeId} {as : List A} {c : Array Value} (ha : AsRel ρ H as c.toList) :
    ∃ ρ', Ext ρ H ρ' (H ++ [.cells t as]) ∧ HRel E w0 ρ' (H ++ [.cells t as]) (w.alloc (.cells c t)) ∧ VRel ρ' (H ++ [.cells t as]) (.at (.ptr H.length 0)) (.pointer (some ⟨w.heap.size, 0, none⟩)) := by
  have hx := Ext.push hr.len ⟨w.heap.size, 0, 0, true⟩ (.cells t as)
  refine ⟨_, hx, hr.push (pl := ⟨w.heap.size, 0, 0, true⟩) rfl rfl rfl (by simp) (fun k hk => ?_) (fun _ => Nat.le_refl _) ⟨rfl, rfl, c, heap_alloc_new w _, ha.ext hx⟩, .inr ⟨⟨w.heap.size, 0, 0, true⟩, by rw [← hr.len]; simp, rfl⟩⟩
  exact heap_alloc_old w _ k hk

/-- alloc -/
def eAlloc (H : Heap) (tl : Tab) (t : TypeId) : Option (V × Heap) :=
  match lk tl t with
  | some ti => some (.at (.ptr H.length 0), H ++ [.cells t (ti.zero.map A.raw)])
  | none => none
theorem eAlloc_ok {tl : Tab} (htl : TabOk P tl) (hr : HRel E w0 ρ H w) {t : TypeId} {v : V} {H' : Heap} (h : eAlloc H tl t = some (v, H')) : EOk P E w0 w ρ H (Instr.alloc t true (.tuple #[])) v H' := by
  unfold eAlloc at h
  split at h
  · rename_i ti hti
    cases h
    obtain ⟨z, hz, _, hrun⟩ := (htl t ti hti).zero_run
    have ha : AsRel ρ H (ti.zero.map A.raw) z.cells.toList := by
      rw [hz]
      refine ⟨by simp, fun j a v ha hv => ?_⟩
      simp only [List.getElem?_map, hv, Option.map_some, Option.some.injEq] at ha
      subst ha; rfl
    obtain ⟨ρ', h1, h2, h3⟩ := push_cells hr (t := t) ha
    exact ⟨_, _, ρ', by simp [Instr.alloc, hrun, newVar, newRow], h1, h2, h3⟩
  · cases h

/-- box -/
def eBox (H : Heap) (t : TypeId) (x : V) : Option (V × Heap) :=
  match asOf x with
  | some as => bif as.all (okA H) then some (.at (.ptr H.length 0), H ++ [.cells t as]) else none
  | none => none
theorem eBox_ok (hr : HRel E w0 ρ H w) {t : TypeId} {x v : V} {u : Value} {H' : Heap} (h : eBox H t x = some (v, H')) (hx : VRel ρ H x u) : EOk P E w0 w ρ H (Instr.box t u) v H' := by
  unfold eBox at h
  split at h
  · rename_i as has
    cases hok : as.all (okA H) with
    | false => rw [hok] at h; cases h
    | true =>
      rw [hok] at h
      cases h
      obtain ⟨ha, _⟩ := asOf_rel has hok hx
      obtain ⟨ρ', h1, h2, h3⟩ := push_cells hr (t := t) ha
      exact ⟨_, _, ρ', by simp [Instr.box, newVar, newRow], h1, h2, h3⟩
  · cases h

/-- store through a pointer to an object -/
def colSet : Col → Nat → A → Option Col
  | .int k l, i, .raw (.int k' n) => bif decide (k = k') then some (.int k (l.set i n)) else none
  | .bool l, i, .raw (.bool b) => some (.bool (l.set i b))
  | .str l, i, .raw (.string s) => some (.str (l.set i s))
  | _, _, _ => none
def colsSet : List Col → Nat → List A → Option (List Col)
  | c :: cs, i, a :: as => match colSet c i a, colsSet cs i as with | some c', some cs' => some (c' :: cs') | _, _ => none
  | cs, _, [] => some cs
  | [], _, _ :: _ => none
def eStore (H : Heap) (tl : Tab) (t : TypeId) (p x : V) : Option (Heap × Bool) :=
  match lk tl t, p, asOf x with
  | some ti, .at (.ptr id off), some as =>
    match H[id]? with
    | some (.cells tt cs) =>
      bif as.all (okA H) && Nat.beq as.length ti.size && Nat.ble (off + as.length) cs.length then
        some (H.set id (.cells tt (cs.take off ++ as ++ cs.drop (off + as.length))), true)
      else none
    | _ => none
  | some ti, .at (.eptr id sz i f), some as =>
    match H[id]? with
    | some (.row e sz' n cols) =>
      bif Nat.beq as.length ti.size && Nat.beq sz sz' && Nat.ble (f + as.length) cols.length then
        match colsSet (cols.drop f) i.toNat as with
        | some cs' => some (H.set id (.row e sz' n (cols.take f ++ cs')), decide (0 ≤ i ∧ i < n))
        | none => none
      else none
    | _ => none
  | _, _, _ => none

theorem storeVar_run {t : TypeId} {ti : TI} (ht : TiOk P t ti) {g o : Nat} {tt : TypeId} {cur : Array Value} {u : Value} (hg : w.heap[g]? = some (.cells cur tt (0, 0))) (hs : u.cells.size = ti.size) (hl : o + u.cells.size ≤ cur.size) (h1 : ∀ v ∈ u.cells.toList, v.oneCell' = true) :
    (Instr.storeAt t (.pointer (some ⟨g, o, none⟩)) u).run P w = .ok () (w.setRow g (cur.toList.take o ++ u.cells.toList ++ cur.toList.drop (o + u.cells.size)).toArray) := by
  have := run_storeCells_at P g o tt u.cells.toList 0 cur w hg (by simpa using hl) h1
  simp only [Nat.add_zero, Array.length_toList] at this
  simp [Instr.storeAt, Instr.sureAddr, storeVar, ht.size_run, hs, this]

theorem AsRel.splice {as bs : List A} {vs us : List Value} {o : Nat} (h : AsRel ρ H as vs) (hb : AsRel ρ H bs us) (ho : o + bs.length ≤ as.length) : AsRel ρ H (as.take o ++ bs ++ as.drop (o + bs.length)) (vs.take o ++ us ++ vs.drop (o + us.length)) := by
  have e1 := h.1
  have e2 := hb.1
  refine ⟨by simp; omega, fun j a v ha hv => ?_⟩
  rcases Nat.lt_or_ge j o with hj | hj
  · rw [List.append_assoc, List.getElem?_append_left (by simp; omega)] at ha hv
    simp only [List.getElem?_take, hj, if_true] at ha hv
    exact h.2 j a v ha hv
  · rcases Nat.lt_or_ge j (o + bs.length) with hj2 | hj2
    · rw [List.append_assoc, List.getElem?_append_right (by simp; omega), List.getElem?_append_left (by simp; omega)] at ha hv
      have hta : (as.take o).length = o := by simp; omega
      have htv : (vs.take o).length = o := by simp; omega
      rw [hta] at ha; rw [htv] at hv
      exact hb.2 (j - o) a v ha hv
    · rw [List.getElem?_append_right (by simp; omega)] at ha hv
      have hta : (as.take o ++ bs).length = o + bs.length := by simp; omega
      have htv : (vs.take o ++ us).length = o + us.length := by simp; omega
      rw [hta, List.getElem?_drop] at ha
      rw [htv, List.getElem?_drop, e2] at hv
      have : o + bs.length + (j - (o + bs.length)) = j := by omega
      rw [this] at ha hv
      exact h.2 j a v ha hv

theorem colSet_ok {c c' : Col} {i : Nat} {a : A} (h : colSet c i a = some c') : c'.len = c.len ∧ ∀ j, j < c.len → c'.at j = if j = i then a else c.at j := by
  unfold colSet at h
  split at h
  · rename_i k l k' n
    by_cases hk : k = k'
    · subst hk
      simp only [decide_true, cond_true, Option.some.injEq] at h
      subst h
      refine ⟨by simp [Col.len], fun j hj => ?_⟩
      simp only [Col.len] at hj
      simp only [Col.at, List.getD_eq_getElem?_getD, List.getElem?_set]
      by_cases e : i = j
      · subst e; simp [hj]
      · simp [e, Ne.symm e]
    · simp [hk] at h
  · rename_i l b
    cases h
    refine ⟨by simp [Col.len], fun j hj => ?_⟩
    simp only [Col.len] at hj
    simp only [Col.at, List.getD_eq_getElem?_getD, List.getElem?_set]
    by_cases e : i = j
    · subst e; simp [hj]
    · simp [e, Ne.symm e]
  · rename_i l b
    cases h
    refine ⟨by simp [Col.len], fun j hj => ?_⟩
    simp only [Col.len] at hj
    simp only [Col.at, List.getD_eq_getElem?_getD, List.getElem?_set]
    by_cases e : i = j
    · subst e; simp [hj]
    · simp [e, Ne.symm e]
  · cases h

theorem colsSet_ok : ∀ {cs cs' : List Col} {i : Nat} {as : List A}, colsSet cs i as = some cs' → cs'.length = cs.length ∧ as.length ≤ cs.length ∧
    ∀ (f : Nat) (c' : Col), cs'[f]? = some c' → ∃ c, cs[f]? = some c ∧ c'.len = c.len ∧ ∀ j, j < c.len → c'.at j = if j = i then (match as[f]? with | some a => a | none => c.at j) else c.at j
  | c :: cs, cs', i, a :: as, h => by
    simp only [colsSet] at h
    split at h
    · rename_i c1 cs1 h1 h2
      cases h
      obtain ⟨l1, l2, l3⟩ := colsSet_ok h2
      obtain ⟨k1, k2⟩ := colSet_ok h1
      refine ⟨by simp [l1], by simp; exact l2, fun f c' hc => ?_⟩
      match f with
      | 0 => simp at hc; subst hc; exact ⟨c, rfl, k1, fun j hj => by simpa using k2 j hj⟩
      | f + 1 => simp at hc; obtain ⟨c0, h0, h3, h4⟩ := l3 f c' hc; exact ⟨c0, by simpa using h0, h3, fun j hj => by simpa using h4 j hj⟩
    · cases h
  | [], cs', i, [], h => by simp only [colsSet, Option.some.injEq] at h; subst h; exact ⟨rfl, by simp, fun f c' hc => by simp at hc⟩
  | c :: cs, cs', i, [], h => by simp only [colsSet, Option.some.injEq] at h; subst h; exact ⟨rfl, by simp, fun f c' hc => ⟨c', hc, rfl, fun j _ => by simp⟩⟩
  | [], cs', i, a :: as, h => by simp [colsSet] at h

theorem colsSet_raw : ∀ {cs cs' : List Col} {i : Nat} {as : List A}, colsSet cs i as = some cs' → as.all (okA H) = true
  | c :: cs, cs', i, a :: as, h => by
    simp only [colsSet] at h
    split at h
    · rename_i c1 cs1 h1 h2
      have h3 : okA H a = true := by
        unfold colSet at h1
        split at h1 <;> first | (cases h1; done) | rfl
      simp [h3]
      simpa using colsSet_raw h2
    · cases h
  | [], cs', i, [], h => rfl
  | c :: cs, cs', i, [], h => rfl
  | [], cs', i, a :: as, h => by simp [colsSet] at h

theorem eStore_ok {tl : Tab} (htl : TabOk P tl) (hr : HRel E w0 ρ H w) {t : TypeId} {p x : V} {q u : Value} {H' : Heap} {c : Bool} (h : eStore H tl t p x = some (H', c)) (hc : c = true) (hp : VRel ρ H p q) (hx : VRel ρ H x u) :
    ∃ w', (Instr.storeAt t q u).run P w = .ok () w' ∧ Ext ρ H ρ H' ∧ HRel E w0 ρ H' w' := by
  unfold eStore at h
  split at h
  · rename_i ti id off as hti has
    have ht := htl t ti hti
    split at h
    · rename_i tt cs hid
      cases hb : (as.all (okA H) && Nat.beq as.length ti.size && Nat.ble (off + as.length) cs.length) with
      | false => rw [hb] at h; cases h
      | true =>
        rw [hb] at h
        cases h
        simp only [Bool.and_eq_true] at hb
        obtain ⟨⟨hok, hsz⟩, hle⟩ := hb
        have hsz := Nat.eq_of_beq_eq_true hsz
        have hle := Nat.le_of_ble_eq_true hle
        obtain ⟨pl, hpl, h1, h2, cur, h3, h4⟩ := hr.at hid
        have hq : q = .pointer (some (pl.addr off)) := by
          rcases hp with hp | ⟨pl', hpl', hp⟩
          · rw [Gone, hid] at hp; cases hp
          · rw [hpl] at hpl'; cases hpl'; exact hp
        subst hq
        obtain ⟨ha, hone⟩ := asOf_rel has hok hx
        have hl : u.cells.size = as.length := by simpa using ha.1
        have h4l := h4.1
        simp at h4l
        have hst := storeVar_run (w := w) ht (g := pl.blk) (o := off) h3 (by rw [hl, hsz]) (by omega) hone
        have hx' : Ext ρ H ρ (H.set id (.cells tt (cs.take off ++ as ++ cs.drop (off + as.length)))) := Ext.set hid rfl
        refine ⟨_, by rw [show pl.addr off = ⟨pl.blk, off, none⟩ by simp [Pl.addr, h2]]; exact hst, hx', ?_⟩
        refine hr.set hpl hid rfl rfl h1 rfl rfl rfl (by simp) (fun k hk => setRow_other w _ k _ hk) ⟨h1, h2, _, setRow_heap w _ cur _ tt (0, 0) h3, ?_⟩
        have := (h4.splice ha hle).ext hx'
        simpa using this
    · cases h
  · rename_i ti id sz i f as hti has
    have ht := htl t ti hti
    split at h
    · rename_i e sz' n cols hid
      cases hb : (Nat.beq as.length ti.size && Nat.beq sz sz' && Nat.ble (f + as.length) cols.length) with
      | false => rw [hb] at h; cases h
      | true =>
        rw [hb] at h
        simp only [cond_true] at h
        simp only [Bool.and_eq_true] at hb
        have hsz := Nat.eq_of_beq_eq_true hb.1.1
        have e' := Nat.eq_of_beq_eq_true hb.1.2
        have hfle := Nat.le_of_ble_eq_true hb.2
        subst e'
        split at h
        · rename_i cs' hcs
          cases h
          obtain ⟨pl, hpl, hok, hreal⟩ := hr.at hid
          have hq : q = .pointer (some (pl.addr (i.toNat * sz + f))) := by
            rcases hp with hp | ⟨pl', hpl', hp⟩
            · rw [Gone, hid] at hp; cases hp
            · rw [hpl] at hpl'; cases hpl'; exact hp
          subst hq
          obtain ⟨hn, hcl, hcn, hs0, hnc, hcm, hv⟩ := hok
          have hc := of_decide_eq_true hc
          have hin : i.toNat < n.toNat := by omega
          have hrl : pl.real = true := by
            cases hpr : pl.real with
            | true => rfl
            | false => have := hv hpr; omega
          obtain ⟨cur, h3, hfit, h4⟩ := hreal hrl
          obtain ⟨k1, k2, k3⟩ := colsSet_ok hcs
          obtain ⟨ha, hone⟩ := asOf_rel has (colsSet_raw hcs) hx
          have hl : u.cells.size = as.length := by simpa using ha.1
          have hfl : f + as.length ≤ sz := by omega
          have hmul : i.toNat * sz + sz ≤ pl.cap * sz := by
            have : (i.toNat + 1) * sz ≤ pl.cap * sz := Nat.mul_le_mul_right _ (by omega)
            rwa [Nat.add_mul, Nat.one_mul] at this
          have hst := storeVar_run (w := w) ht (g := pl.blk) (o := pl.off + (i.toNat * sz + f)) h3 (by rw [hl, hsz]) (by omega) hone
          have hx' : Ext ρ H ρ (H.set id (.row e sz n (cols.take f ++ cs'))) := Ext.set hid rfl
          have hlen' : (cols.take f ++ cs').length = sz := by simp [k1]; simp at k2; omega
          have hget : ∀ (g : Nat) (c' : Col), (cols.take f ++ cs')[g]? = some c' → ∃ c, cols[g]? = some c ∧ c'.len = c.len ∧ ∀ j, j < c.len → c'.at j = if j = i.toNat ∧ f ≤ g ∧ g < f + as.length then (as[g - f]?).getD .junk else c.at j := by
            intro g c' hg
            rcases Nat.lt_or_ge g f with hgf | hgf
            · rw [List.getElem?_append_left (by simp; omega)] at hg
              simp only [List.getElem?_take, hgf, if_true] at hg
              exact ⟨c', hg, rfl, fun j _ => by rw [if_neg (by omega)]⟩
            · rw [List.getElem?_append_right (by simp; omega)] at hg
              have hta : (cols.take f).length = f := by simp; omega
              rw [hta] at hg
              obtain ⟨c0, h0, h5, h6⟩ := k3 _ _ hg
              rw [List.getElem?_drop, show f + (g - f) = g by omega] at h0
              refine ⟨c0, h0, h5, fun j hj => ?_⟩
              rw [h6 j hj]
              by_cases hji : j = i.toNat
              · rw [if_pos hji]
                rcases Nat.lt_or_ge (g - f) as.length with hlt | hge
                · rw [if_pos ⟨hji, hgf, by omega⟩, List.getElem?_eq_getElem hlt]; rfl
                · rw [if_neg (by omega), List.getElem?_eq_none hge]
              · rw [if_neg hji, if_neg (by omega)]
          refine ⟨_, hst, hx', ?_⟩
          refine hr.set hpl hid rfl rfl hrl rfl rfl rfl (by simp) (fun k hk => setRow_other w _ k _ hk) ⟨⟨hn, ?_, hlen', hs0, hnc, hcm, hv⟩, fun _ => ⟨_, setRow_heap w _ cur _ e (0, 0) h3, ?_, ?_⟩⟩
          · intro c' hc'
            obtain ⟨g, hg, hge⟩ := List.getElem_of_mem hc'
            obtain ⟨c0, h0, h5, _⟩ := hget g c' (by rw [List.getElem?_eq_getElem hg, hge])
            rw [h5]
            exact hcl c0 (List.mem_of_getElem? h0)
          · simp; omega
          · intro j g c' hj hg
            obtain ⟨c0, h0, h5, h6⟩ := hget g c' hg
            have hgs : g < sz := by rw [← hlen']; exact (List.getElem?_eq_some_iff.1 hg).1
            have hc0 : c0.len = n.toNat := hcl c0 (List.mem_of_getElem? h0)
            rw [h6 j (by omega)]
            obtain ⟨y, hy, hya⟩ := h4 j g c0 hj h0
            have hO : pl.off + (i.toNat * sz + f) + u.cells.size ≤ cur.size := by omega
            have hsplice : ∀ k, ((cur.toList.take (pl.off + (i.toNat * sz + f)) ++ u.cells.toList ++ cur.toList.drop (pl.off + (i.toNat * sz + f) + u.cells.size)).toArray)[k]? =
                if pl.off + (i.toNat * sz + f) ≤ k ∧ k < pl.off + (i.toNat * sz + f) + u.cells.size then u.cells[k - (pl.off + (i.toNat * sz + f))]? else cur[k]? := by
              intro k
              simp only [List.getElem?_toArray]
              rcases Nat.lt_or_ge k (pl.off + (i.toNat * sz + f)) with hk | hk
              · rw [if_neg (by omega), List.append_assoc, List.getElem?_append_left (by simp; omega)]
                simp [List.getElem?_take, hk]
              · rcases Nat.lt_or_ge k (pl.off + (i.toNat * sz + f) + u.cells.size) with hk2 | hk2
                · rw [if_pos ⟨hk, hk2⟩, List.append_assoc, List.getElem?_append_right (by simp; omega), List.getElem?_append_left (by simp; omega)]
                  rw [show (cur.toList.take (pl.off + (i.toNat * sz + f))).length = pl.off + (i.toNat * sz + f) by simp; omega]
                  simp
                · rw [if_neg (by omega), List.getElem?_append_right (by simp; omega), List.getElem?_drop]
                  rw [show (cur.toList.take (pl.off + (i.toNat * sz + f)) ++ u.cells.toList).length = pl.off + (i.toNat * sz + f) + u.cells.size by simp; omega]
                  rw [show pl.off + (i.toNat * sz + f) + u.cells.size + (k - (pl.off + (i.toNat * sz + f) + u.cells.size)) = k by omega]
                  simp
            rw [hsplice]
            by_cases hcase : j = i.toNat ∧ f ≤ g ∧ g < f + as.length
            · obtain ⟨rfl, hfg, hga⟩ := hcase
              have hcond : pl.off + (i.toNat * sz + f) ≤ pl.off + i.toNat * sz + g ∧ pl.off + i.toNat * sz + g < pl.off + (i.toNat * sz + f) + u.cells.size := by omega
              rw [if_pos hcond, if_pos ⟨rfl, hfg, hga⟩]
              have hlt : g - f < as.length := by omega
              rw [List.getElem?_eq_getElem hlt, Option.getD_some]
              obtain ⟨z, hz, hza⟩ := (ha.ext hx').get (List.getElem?_eq_getElem hlt)
              refine ⟨z, ?_, hza⟩
              rw [show pl.off + i.toNat * sz + g - (pl.off + (i.toNat * sz + f)) = g - f by omega]
              simpa using hz
            · rw [if_neg hcase, if_neg ?_]
              · exact ⟨y, hy, hya.ext hx'⟩
              · intro ⟨hk1, hk2⟩
                apply hcase
                have hjj : j = i.toNat := by
                  rcases Nat.lt_trichotomy j i.toNat with hlt | heq | hgt
                  · have : (j + 1) * sz ≤ i.toNat * sz := Nat.mul_le_mul_right _ hlt
                    rw [Nat.add_mul] at this; omega
                  · exact heq
                  · have : (i.toNat + 1) * sz ≤ j * sz := Nat.mul_le_mul_right _ hgt
                    rw [Nat.add_mul] at this; omega
                subst hjj
                exact ⟨rfl, by omega, by omega⟩
        · cases h
    · cases h
  · cases h
end
end Go.Sx

namespace Go.Sx
open Go
def cutCol (o l : Int) : Col → Option Col
  | .int k x => some (.int k ((x.drop o.toNat).take l.toNat))
  | .bool x => some (.bool ((x.drop o.toNat).take l.toNat))
  | .str x => some (.str ((x.drop o.toNat).take l.toNat))
  | .ats _ => none
def cutCols (o l : Int) : List Col → Option (List Col)
  | [] => some []
  | a :: r => match cutCol o l a, cutCols o l r with | some x, some l => some (x :: l) | _, _ => none
section
variable {ρ ρ1 : List Pl} {H H1 : Heap}
theorem cutCol_at {o l : Int} {a x : Col} (h : cutCol o l a = some x) (hl : o.toNat + l.toNat ≤ a.len) : x.len = l.toNat ∧ ∀ i, i < l.toNat → x.at i = a.at (o.toNat + i) ∧ (∃ v, x.at i = .raw v) := by
  cases a <;> simp only [cutCol, Option.some.injEq] at h <;> first
    | (cases h; done)
    | (subst h
       simp only [Col.len] at hl
       refine ⟨by simp [Col.len]; omega, fun i hi => ⟨?_, ⟨_, rfl⟩⟩⟩
       simp [Col.at, List.getD_eq_getElem?_getD, List.getElem?_take, hi, List.getElem?_drop])
theorem cutCols_at {o l : Int} : ∀ {as xs : List Col}, cutCols o l as = some xs → xs.length = as.length ∧ ∀ (j : Nat) (x : Col), xs[j]? = some x → ∃ a, as[j]? = some a ∧ cutCol o l a = some x
  | [], xs, h => by simp only [cutCols, Option.some.injEq] at h; subst h; exact ⟨rfl, fun j a ha => by simp at ha⟩
  | a :: as, xs, h => by
    simp only [cutCols] at h
    split at h
    · rename_i x l' h1 h2
      cases h
      obtain ⟨a1, a2⟩ := cutCols_at h2
      refine ⟨by simp [a1], fun j b hb => ?_⟩
      match j with
      | 0 => simp at hb; subst hb; exact ⟨a, rfl, h1⟩
      | j + 1 => simp at hb; obtain ⟨y, hy, hy2⟩ := a2 j b hb; exact ⟨y, by simpa using hy, hy2⟩
    · cases h

/-- The place of a part. -/
def cutPl (p : Pl) (sz : Nat) (o : Int) : Pl := ⟨p.blk, p.off + o.toNat * sz, p.cap - o.toNat, p.real⟩
theorem cutRow_ok {p : Pl} {sz : Nat} {n o len : Int} {cols cols' : List Col} (h : RowOk p sz n cols) (hc : cutCols o len cols = some cols') (h0 : 0 ≤ o) (h1 : 0 ≤ len) (hle : o + len ≤ n) :
    RowOk (cutPl p sz o) sz len cols' := by
  obtain ⟨k1, k2, k3, k4, k5, k6, k7⟩ := h
  obtain ⟨s1, s2⟩ := cutCols_at hc
  refine ⟨h1, fun c hc => ?_, by omega, k4, by simp [cutPl]; omega, by simp [cutPl]; omega, fun hf => by have := k7 hf; simp [cutPl]; omega⟩
  obtain ⟨j, hj, rfl⟩ := List.getElem_of_mem hc
  obtain ⟨b, hb, hb2⟩ := s2 j _ (List.getElem?_eq_getElem hj)
  exact (cutCol_at hb2 (by rw [k2 b (List.mem_of_getElem? hb)]; omega)).1
theorem cutRow_cols {p : Pl} {sz : Nat} {n o len : Int} {cols cols' : List Col} {cur : Array Value} (h : RowOk p sz n cols) (hc : cutCols o len cols = some cols') (h0 : 0 ≤ o) (h1 : 0 ≤ len) (hle : o + len ≤ n)
    (hr : ColsRel ρ H p sz n cols cur) : ColsRel ρ1 H1 (cutPl p sz o) sz len cols' cur := by
  obtain ⟨k1, k2, k3, k4, k5, k6, k7⟩ := h
  obtain ⟨s1, s2⟩ := cutCols_at hc
  intro i f c hi hcf
  obtain ⟨b, hb, hb2⟩ := s2 f c hcf
  obtain ⟨g1, g2⟩ := cutCol_at hb2 (by rw [k2 b (List.mem_of_getElem? hb)]; omega)
  obtain ⟨e1, v, e2⟩ := g2 i hi
  obtain ⟨u, hu, hua⟩ := hr (o.toNat + i) f b (by omega) hb
  refine ⟨u, ?_, ?_⟩
  · rw [← hu]; congr 1; simp only [cutPl]; rw [Nat.add_mul]; omega
  · rw [← e1, e2] at hua; rw [e2]; exact hua
theorem cutSl_ok {p : Pl} {sz : Nat} {off : Option Int} {len : Int} {u : Value} (h : SlRel p sz (off.getD 0) len u) : SlRel (cutPl p sz (off.getD 0)) sz 0 len u := by
  obtain ⟨h0, h1, h2, hs⟩ := h
  refine ⟨by simp, h1, by simp [cutPl]; omega, ?_⟩
  rcases hs with ⟨hr, a, hu, ha⟩ | ⟨hr, hc, hu⟩
  · exact .inl ⟨hr, a, by simpa [cutPl] using hu, fun hne => by rw [ha (by simpa [cutPl] using hne)]; simp [cutPl, Pl.addr]⟩
  · exact .inr ⟨hr, by simp [cutPl, hc], hu⟩

end
end Go.Sx

