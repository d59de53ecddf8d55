/-
  EqnTrue: the card: for every input the law returns true, the argument as it was; the listed variables as the program's text lays them.
-/
import Derived.Test.YtinkhffncpmnaaaGreatDoorREqnTrue2
set_option linter.all false
namespace Go.Proofs.YtinkhffncpmnaaaGreatDoor.EqnTrue
open Go.ChangeShapes Go.WideShapes Go.ChangeAt Go.RowKit Go.Sx Go.Sx.T
open Go.ChangeMaps (open_string shut_string)
theorem card_holds : Rows.EqnTrueCardSaid :=
  Claim7.holds_tied_plain_at .later [] [.data, .data, .data, .data, .sentinel, .sentinel, .pinned] true (true, "f07d96ebdc92b6f3069b0507195f18935680a5151de899583468b9b23e2c06c3") true holds (fun _ h => by cases h) (by kernel_rfl) (fun _ h => by cases h) eqnTrue_row_tie rfl ⟨rfl, rfl⟩ (by kernel_rfl) rfl
    (fun f fn hf hfn => by
      obtain rfl : f = 11 := Option.some.inj ((show Tryz.prog.funcNamed "muleteer/muleteerlaw8.EqnTrue" = some 11 by kernel_rfl).symm.trans hf) |>.symm
      obtain rfl : fn = Tryz.f11 := (Option.some.inj (Tryz.func11.symm.trans hfn)).symm
      exact ⟨by kernel_rfl, fun j t ht => by
        rw [Tryz.params11] at ht
        have hm : t ∈ [27, 27, 27] := by simpa using Array.mem_of_getElem? ht
        have hall : ([27, 27, 27].all fun u => !Tryz.prog.wantsStandIn u) = true := by kernel_rfl
        exact (show Tryz.prog.wantsStandIn t = false by simpa using List.all_eq_true.1 hall t hm)⟩)
    (by kernel_rfl)
end Go.Proofs.YtinkhffncpmnaaaGreatDoor.EqnTrue
