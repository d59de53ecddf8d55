/-
  The executor's table of types, and the operations that only read.
-/
import Derived.Test.YtbjpcbghchfifaaGreatDoorSxA
import Derived.Laws.Small
import Derived.Laws.Strings
import Derived.Laws.Strings2
import Derived.Laws.Slices
import Derived.Laws.Pointers
import Derived.Laws.StructEq
set_option linter.all false
namespace Go.Sx
open Go

inductive TK where
  | int (k : IntKind)
  | bool
  | str
  | ptr (e : Nat)
  | sl (e : Nat)
  | map (k e : Nat)
  | st (fs : List (Nat × Nat))
  | arr (n e : Nat)
  | func
  | other

structure TI where
  kind : TK
  size : Nat
  bytes : Nat
  zero : List Value

def TK.isAgg : TK → Option Bool
  | .st _ | .arr _ _ => some true
  | .other => none
  | _ => some false

def TK.ok (P : Program) (t : Nat) : TK → Prop
  | .int k => P.underlying t = some (.int k)
  | .bool => P.underlying t = some .bool
  | .str => P.underlying t = some .string
  | .ptr e => P.underlying t = some (.pointer e)
  | .sl e => P.underlying t = some (.slice e)
  | .map k e => P.underlying t = some (.map k e)
  | .st fs => ∃ F, P.underlying t = some (.struct F) ∧ F.toList.map (fun f => (f.offset, f.type)) = fs
  | .arr n e => P.underlying t = some (.array n e)
  | .func => ∃ a b c, P.underlying t = some (.func a b c)
  | .other => True

structure TiOk (P : Program) (t : Nat) (ti : TI) : Prop where
  kind : ti.kind.ok P t
  parts : ∃ i z, P.info? t = some i ∧ i.size = ti.size ∧ i.bytes = ti.bytes ∧ i.zero = some z ∧ z.cells.toList = ti.zero ∧ (ti.kind.isAgg = some false → ti.zero = [z])

theorem TiOk.mk' {P : Program} {t : Nat} {ti : TI} {z : Value} (hk : ti.kind.ok P t) (h : (P.info? t).map (fun i => (i.size, i.bytes, i.zero)) = some (ti.size, ti.bytes, some z)) (hz : z.cells.toList = ti.zero) (h1 : ti.kind.isAgg = some false → ti.zero = [z]) : TiOk P t ti := by
  refine ⟨hk, ?_⟩
  cases hi : P.info? t with
  | none => rw [hi] at h; cases h
  | some i =>
    rw [hi] at h
    simp only [Option.map_some, Option.some.injEq, Prod.mk.injEq] at h
    exact ⟨i, z, rfl, h.1, h.2.1, h.2.2, hz, h1⟩

abbrev Tab := List (Nat × TI)
def TabOk (P : Program) (tl : Tab) : Prop := ∀ t ti, lk tl t = some ti → TiOk P t ti
theorem TabOk.nil {P : Program} : TabOk P [] := fun t ti h => by cases h
theorem TabOk.cons {P : Program} {t : Nat} {ti : TI} {tl : Tab} (h : TiOk P t ti) (hs : TabOk P tl) : TabOk P ((t, ti) :: tl) := by
  intro t' ti' hl
  simp only [lk] at hl
  cases hb : Nat.beq t t' with
  | true =>
    have e : t = t' := Nat.eq_of_beq_eq_true hb
    subst e
    simp only [hb, cond_true, Option.some.injEq] at hl
    subst hl; exact h
  | false =>
    simp only [hb, cond_false] at hl
    exact hs t' ti' hl

section
variable {P : Program}
theorem TiOk.size_run {t : Nat} {ti : TI} (h : TiOk P t ti) (w : World) : (sizeOf t).run P w = .ok ti.size w := by
  obtain ⟨i, z, hi, hs, _⟩ := h.parts
  simp [sizeOf, typeInfo, hi, hs]
theorem TiOk.isAgg_run {t : Nat} {ti : TI} (h : TiOk P t ti) {b : Bool} (hb : ti.kind.isAgg = some b) (w : World) : (Go.isAgg t).run P w = .ok b w := by
  have hk := h.kind
  unfold Go.isAgg
  cases hc : ti.kind with
  | st fs => rw [hc] at hk hb; obtain ⟨F, hF, _⟩ := hk; simp only [TK.isAgg, Option.some.injEq] at hb; subst hb; simp [run_underlying hF]
  | arr n e => rw [hc] at hk hb; simp only [TK.isAgg, Option.some.injEq] at hb; subst hb; simp only [TK.ok] at hk; simp [run_underlying hk]
  | other => rw [hc] at hb; cases hb
  | func => rw [hc] at hk hb; obtain ⟨x, y, z, hF⟩ := hk; simp only [TK.isAgg, Option.some.injEq] at hb; subst hb; simp [run_underlying hF]
  | int k => rw [hc] at hk hb; simp only [TK.isAgg, Option.some.injEq] at hb; subst hb; simp only [TK.ok] at hk; simp [run_underlying hk]
  | bool => rw [hc] at hk hb; simp only [TK.isAgg, Option.some.injEq] at hb; subst hb; simp only [TK.ok] at hk; simp [run_underlying hk]
  | str => rw [hc] at hk hb; simp only [TK.isAgg, Option.some.injEq] at hb; subst hb; simp only [TK.ok] at hk; simp [run_underlying hk]
  | ptr e => rw [hc] at hk hb; simp only [TK.isAgg, Option.some.injEq] at hb; subst hb; simp only [TK.ok] at hk; simp [run_underlying hk]
  | sl e => rw [hc] at hk hb; simp only [TK.isAgg, Option.some.injEq] at hb; subst hb; simp only [TK.ok] at hk; simp [run_underlying hk]
  | map k e => rw [hc] at hk hb; simp only [TK.isAgg, Option.some.injEq] at hb; subst hb; simp only [TK.ok] at hk; simp [run_underlying hk]
end

/-! ### Arithmetic, as the executor writes it -/
def addI (k : IntKind) (a b : Int) : Int := k.wrap (a + b)
def subI (k : IntKind) (a b : Int) : Int := k.wrap (a - b)
def mulI (k : IntKind) (a b : Int) : Int := k.wrap (a * b)
def quoI (k : IntKind) (a b : Int) : Int := k.wrap (a.tdiv b)
def remI (_k : IntKind) (a b : Int) : Int := a.tmod b
def andI (k : IntKind) (a b : Int) : Int := k.wrap ((BitVec.ofInt k.bits a &&& BitVec.ofInt k.bits b).toNat : Int)
def orI (k : IntKind) (a b : Int) : Int := k.wrap ((BitVec.ofInt k.bits a ||| BitVec.ofInt k.bits b).toNat : Int)
def xorI (k : IntKind) (a b : Int) : Int := k.wrap ((BitVec.ofInt k.bits a ^^^ BitVec.ofInt k.bits b).toNat : Int)
def andNotI (k : IntKind) (a b : Int) : Int := k.wrap ((BitVec.ofInt k.bits a &&& ~~~ BitVec.ofInt k.bits b).toNat : Int)
def shlI (k : IntKind) (a b : Int) : Int := k.wrap (a * 2 ^ (min b.toNat k.bits))
def shrI (k : IntKind) (a b : Int) : Int := a.fdiv (2 ^ (min b.toNat k.bits))
def maxI (a b : Int) : Int := if b > a then b else a
def minI (a b : Int) : Int := if b < a then b else a

/-- Two plain values under an operator: the value, and what must hold. -/
def binR (op : BinOp) (x y : Value) : Option (Value × Bool) :=
  match x, y with
  | .int k a, .int k' b =>
    match op with
    | .shl => some (.int k (shlI k a b), decide (0 ≤ b))
    | .shr => some (.int k (shrI k a b), decide (0 ≤ b))
    | .add => bif decide (k = k') then some (.int k (addI k a b), true) else none
    | .sub => bif decide (k = k') then some (.int k (subI k a b), true) else none
    | .mul => bif decide (k = k') then some (.int k (mulI k a b), true) else none
    | .quo => bif decide (k = k') then some (.int k (quoI k a b), decide (b ≠ 0)) else none
    | .rem => bif decide (k = k') then some (.int k (remI k a b), decide (b ≠ 0)) else none
    | .and => bif decide (k = k') then some (.int k (andI k a b), true) else none
    | .or => bif decide (k = k') then some (.int k (orI k a b), true) else none
    | .xor => bif decide (k = k') then some (.int k (xorI k a b), true) else none
    | .andNot => bif decide (k = k') then some (.int k (andNotI k a b), true) else none
    | .eql => bif decide (k = k') then some (.bool (a == b), true) else none
    | .neq => bif decide (k = k') then some (.bool (a != b), true) else none
    | .lss => bif decide (k = k') then some (.bool (decide (a < b)), true) else none
    | .leq => bif decide (k = k') then some (.bool (decide (a ≤ b)), true) else none
    | .gtr => bif decide (k = k') then some (.bool (decide (a > b)), true) else none
    | .geq => bif decide (k = k') then some (.bool (decide (a ≥ b)), true) else none
  | .string a, .string b =>
    match op with
    | .add => some (.string (a ++ b), decide ((a.size : Int) + (b.size : Int) ≤ 9223372036854775807))
    | .eql => some (.bool (a == b), true)
    | .neq => some (.bool (!(a == b)), true)
    | _ => none
  | _, _ => none

theorem binR_run {P : Program} {op : BinOp} {x y v : Value} {c : Bool} (h : binR op x y = some (v, c)) (hc : c = true) (t : TypeId) (ox oy : Operand) (w : World) :
    (do eqGuard op t ox oy x y; binOp op t x y : Sem Value).run P w = .ok v w := by
  unfold binR at h
  split at h
  · rename_i k a k' b
    have hg : eqGuard op t ox oy (.int k a) (.int k' b) = pure () := eqGuard_at_int ..
    rw [hg]
    simp only [Sem.run_bind, Sem.run_pure, Result.andThen_ok]
    cases op
    case shl | shr =>
      simp only [Option.some.injEq, Prod.mk.injEq] at h
      obtain ⟨rfl, rfl⟩ := h
      simp [binOp, Op.shift, shlI, shrI, Int.not_lt.2 (of_decide_eq_true hc)]
    all_goals
      by_cases hk : k = k'
      · subst hk
        simp only [decide_true, cond_true, Option.some.injEq, Prod.mk.injEq] at h
        obtain ⟨rfl, rfl⟩ := h
        simp [binOp, Op.intArith, Op.intDiv, Op.intBits, Op.intCmp, addI, subI, mulI, quoI, remI, andI, orI, xorI, andNotI] <;> exact fun h0 => absurd h0 (of_decide_eq_true hc)
      · simp [hk] at h
  · rename_i a b
    have hg : eqGuard op t ox oy (.string a) (.string b) = pure () := eqGuard_at_string ..
    rw [hg]
    simp only [Sem.run_bind, Sem.run_pure, Result.andThen_ok]
    cases op <;> simp only [Option.some.injEq, Prod.mk.injEq] at h <;> first
      | (cases h; done)
      | (obtain ⟨rfl, rfl⟩ := h; simp [binOp, Op.stringOp, beq_toListBytes] <;> exact of_decide_eq_true hc)
  · cases h

end Go.Sx
