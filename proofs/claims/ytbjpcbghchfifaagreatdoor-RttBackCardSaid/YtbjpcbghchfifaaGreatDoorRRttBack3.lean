import Derived.Test.YtbjpcbghchfifaaGreatDoorRRttBack2
set_option linter.all false
namespace Go.Proofs.YtbjpcbghchfifaaGreatDoor.RttBack
open Go.ChangeShapes Go.WideShapes Go.ChangeAt Go.RowKit Go.Sx Go.Sx.T
open Go.ChangeMaps (open_string shut_string)
theorem card_holds : Rows.RttBackCardSaid :=
  Claim7.holds_tied_plain_at .later [] [.data, .data, .data, .data, .sentinel, .sentinel, .pinned] true (true, "47d901178d53bbfba34a0ce376f8a4f54a9f8af2d4ea551c8480e587fa93452e") true holds (fun _ h => by cases h) (by kernel_rfl) (fun _ h => by cases h) rttBack_row_tie rfl ⟨rfl, rfl⟩ (by kernel_rfl) rfl
    (fun f fn hf hfn => by
      obtain rfl : f = 13 := Option.some.inj ((show Tryz.prog.funcNamed "muleteer/muleteerlaw8.RttBack" = some 13 by kernel_rfl).symm.trans hf) |>.symm
      obtain rfl : fn = Tryz.f13 := (Option.some.inj (Tryz.func13.symm.trans hfn)).symm
      exact ⟨by kernel_rfl, fun j t ht => by
        rw [Tryz.params13] at ht
        have hm : t ∈ [79, 3] := by simpa using Array.mem_of_getElem? ht
        have hall : ([79, 3].all fun u => !Tryz.prog.wantsStandIn u) = true := by kernel_rfl
        exact (show Tryz.prog.wantsStandIn t = false by simpa using List.all_eq_true.1 hall t hm)⟩)
    (by kernel_rfl)
end Go.Proofs.YtbjpcbghchfifaaGreatDoor.RttBack

