/-
  == of an array of three bytes.
-/
import Derived.Test.YtbjpcbghchfifaaGreatDoorSxDrop
set_option linter.all false
namespace Go.Sx
open Go
section
variable {P : Program}
theorem eqOk_arr3 {t e : TypeId} {ti : TI} (ht : P.underlying t = some (.array 3 e)) (he : P.underlying e = some (.int .u8)) (hti : TiOk P e ti) (hk : ti.kind.isAgg = some false) (hs : ti.size = 1) (hg : P.eqGuardType P.depth t = false) : EqOk P t [.u8, .u8, .u8] := by
  intro l l' hl hl' x y w
  match l, l', hl, hl' with
  | [a, b, c], [a', b', c'], _, _ =>
    have p : ∀ (vs : Array Value) (o : Nat) (u : Value), vs[o]? = some u → (part e vs o).run P w = .ok u w := fun vs o u h => part_one hti hk h w
    have q : ∀ (m n : Int), (Op.equalIn 9999 e (.int .u8 m) (.int .u8 n)).run P w = .ok (m == n) w := fun m n => run_equalIn_int w 9998 e .u8 .u8 m n he
    have key : (Op.equalIn 10000 t (.agg (intVals [.u8, .u8, .u8] [a, b, c]).toArray) (.agg (intVals [.u8, .u8, .u8] [a', b', c']).toArray)).run P w = .ok (eqL [a, b, c] [a', b', c']) w := by
      have p0 := p (intVals [.u8, .u8, .u8] [a, b, c]).toArray 0 (.int .u8 a) rfl
      have p1 := p (intVals [.u8, .u8, .u8] [a, b, c]).toArray 1 (.int .u8 b) rfl
      have p2 := p (intVals [.u8, .u8, .u8] [a, b, c]).toArray 2 (.int .u8 c) rfl
      have r0 := p (intVals [.u8, .u8, .u8] [a', b', c']).toArray 0 (.int .u8 a') rfl
      have r1 := p (intVals [.u8, .u8, .u8] [a', b', c']).toArray 1 (.int .u8 b') rfl
      have r2 := p (intVals [.u8, .u8, .u8] [a', b', c']).toArray 2 (.int .u8 c') rfl
      rw [show (10000 : Nat) = 9999 + 1 from rfl]
      generalize 9999 = d at q ⊢
      have hsz := hti.size_run w
      rw [hs] at hsz
      simp only [Op.equalIn, Sem.run_bind, run_underlying ht, Result.andThen_ok, hsz]
      rw [Std.Legacy.Range.forIn_eq_forIn_range']
      simp only [Std.Legacy.Range.size, Nat.sub_zero, Nat.reduceAdd, Nat.reduceSub, Nat.div_one, List.range', List.forIn_cons, Sem.run_bind, Nat.mul_one, Nat.zero_add, p0, r0, Result.andThen_ok, q]
      cases h0 : (a == a') <;> cases h1 : (b == b') <;> cases h2 : (c == c') <;> simp [eqL, h0, h1, h2, p1, p2, r1, r2, q]
    constructor
    · simp only [Sem.run_bind, run_eqGuard_agg w .eql t x y _ _ hg, Result.andThen_ok, run_eql_struct, key]
    · simp only [Sem.run_bind, run_eqGuard_agg w .neq t x y _ _ hg, Result.andThen_ok, run_neq_struct, key]
end
end Go.Sx
