import Derived.Test.YtbjpcbghchfifaaGreatDoorRIvalSteady2
set_option linter.all false
namespace Go.Proofs.YtbjpcbghchfifaaGreatDoor.IvalSteady
open Go.ChangeShapes Go.WideShapes Go.ChangeAt Go.RowKit Go.Sx Go.Sx.T
open Go.ChangeMaps (open_string shut_string)
theorem card_holds : Rows.IvalSteadyCardSaid :=
  Claim7.holds_tied_plain_at .later [] [.data, .data, .data, .data, .sentinel, .sentinel, .pinned] true (true, "47d901178d53bbfba34a0ce376f8a4f54a9f8af2d4ea551c8480e587fa93452e") true holds (fun _ h => by cases h) (by kernel_rfl) (fun _ h => by cases h) ivalSteady_row_tie rfl ⟨rfl, rfl⟩ (by kernel_rfl) rfl
    (fun f fn hf hfn => by
      obtain rfl : f = 10 := Option.some.inj ((show Tryz.prog.funcNamed "muleteer/muleteerlaw8.IvalSteady" = some 10 by kernel_rfl).symm.trans hf) |>.symm
      obtain rfl : fn = Tryz.f10 := (Option.some.inj (Tryz.func10.symm.trans hfn)).symm
      exact ⟨by kernel_rfl, fun j t ht => by
        rw [Tryz.params10] at ht
        have hm : t ∈ [30, 3] := by simpa using Array.mem_of_getElem? ht
        have hall : ([30, 3].all fun u => !Tryz.prog.wantsStandIn u) = true := by kernel_rfl
        exact (show Tryz.prog.wantsStandIn t = false by simpa using List.all_eq_true.1 hall t hm)⟩)
    (by kernel_rfl)
end Go.Proofs.YtbjpcbghchfifaaGreatDoor.IvalSteady

