import Derived.Test.YtopcljhdejindaaGreatDoorRWinHalf2
set_option linter.all false
namespace Go.Proofs.YtopcljhdejindaaGreatDoor.WinHalf
open Go.ChangeShapes Go.WideShapes Go.ChangeAt Go.RowKit Go.Sx Go.Sx.T
open Go.ChangeMaps (open_string shut_string)
theorem card_holds : Rows.WinHalfCardSaid :=
  Claim7.holds_tied_plain_at .later [] [.data, .data, .data, .data, .sentinel, .sentinel, .pinned] true (true, "8f6fc2019a05fd51a09c463bdb80a78de8d73548fd93cff067eeec64e832f3b4") true holds (fun _ h => by cases h) (by kernel_rfl) (fun _ h => by cases h) winHalf_row_tie rfl ⟨rfl, rfl⟩ (by kernel_rfl) rfl
    (fun f fn hf hfn => by
      obtain rfl : f = 13 := Option.some.inj ((show Tryz.prog.funcNamed "muleteer/muleteerlaw8.WinHalf" = some 13 by kernel_rfl).symm.trans hf) |>.symm
      obtain rfl : fn = Tryz.f13 := (Option.some.inj (Tryz.func13.symm.trans hfn)).symm
      exact ⟨by kernel_rfl, fun j t ht => by
        rw [Tryz.params13] at ht
        have hm : t ∈ [3, 67] := by simpa using Array.mem_of_getElem? ht
        have hall : ([3, 67].all fun u => !Tryz.prog.wantsStandIn u) = true := by kernel_rfl
        exact (show Tryz.prog.wantsStandIn t = false by simpa using List.all_eq_true.1 hall t hm)⟩)
    (by kernel_rfl)
end Go.Proofs.YtopcljhdejindaaGreatDoor.WinHalf

