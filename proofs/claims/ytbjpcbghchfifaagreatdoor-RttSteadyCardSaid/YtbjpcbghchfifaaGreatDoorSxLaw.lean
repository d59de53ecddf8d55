/-
  From a contract to a law's call.
-/
import Derived.Test.YtbjpcbghchfifaaGreatDoorSxZ
import Derived.Below
set_option linter.all false
namespace Go.Sx
open Go
theorem Kept.below {w w' : World} (h : Kept (fun _ => False) w w') : RowKit.Below w.heap.size w w' :=
  ⟨h.os, h.tape, h.output, h.size, fun k hk => h.block k hk fun h => h⟩
theorem law_of {P : Program} {f : FuncId} {pure : Bool} {nargs k0 : Nat} {Tin Tout : Tm} {S : List Leaf → Option (List Leaf)} (c : FnC P f pure nargs k0 Tin Tout S)
    {ls r : List Leaf} {fr : Fr} {H : Heap} (hS : S ls = some r) (hi : inst Tin ls = some (fr, H)) {W : World} {ρ : List Pl} {us : List Value} (hl : us.length = nargs)
    (hr : HRel (fun _ => False) W ρ H W) (hs : SRel ρ H fr (fun t => us.getD t undef)) (ho : ∃ H', inst Tout r = some ([(0, .at (.raw (.bool true)))], H')) :
    Calls P f us.toArray W fun e W' => e = .returned (.bool true) ∧ RowKit.Below W.heap.size W W' := by
  refine Calls.mono (c.run ls r fr H _ W W ρ us hS hi hr hl hs) ?_
  rintro e w' ⟨u, ρ', fr', H', v, rfl, _, h2, h3, h4, h5, _⟩
  obtain ⟨H2, ho⟩ := ho
  rw [ho] at h2
  cases h2
  cases h4
  exact ⟨by have : u = .bool true := h5; rw [this], h3.kept.below⟩
end Go.Sx
