/-
  DERIVED. GIVEN WITH THE SEED: THE CARDS: each row of YtopcljhdejindaaGreatDoorRows.lean that lists a variable, with what it lists TIED to the program's text (the seventh form; the later family's looks); each row that meets fmt, with fmt's text TOLD by the authors' own Lean function (tested against real Go, not proved from fmt's source: count such statements apart). THE CARD IS WHAT COUNTS. Prove the row's statement (the work); the ties are given (YtopcljhdejindaaGreatDoorTie.lean); close each card by the builder's one call (the guide's Derived/Test/ToyasCard.lean, 'card_holds'). Laid BY PROGRAM, IN A SANDBOX (cutbox-door.mjs). By AI agents, Wed Nov 11 2026. No macro, syntax, notation, axiom, sorry.
-/
import Derived.Test.YtopcljhdejindaaGreatDoorRows
import GoSem.ClaimSeven
namespace Go.Proofs.YtopcljhdejindaaGreatDoor
namespace Rows

/-- THE TIED CARD OF 'muleteerlaw8.IvalOrder'. -/
def ivalOrderCard : Claim7 := { stood := { row := ivalOrderRow, standIns := [], harness := (true, "8f6fc2019a05fd51a09c463bdb80a78de8d73548fd93cff067eeec64e832f3b4"), looks := true }, kinds := [], alts := [], laidByText := true, laidKinds := [.data, .data, .data, .data, .sentinel, .sentinel, .pinned], laidTests := true, laidLooks := .later }
def IvalOrderCardSaid : Prop := Claim7.holds Tryz.pinned (.plain (OpenSpec.ofChange ivalOrderSpec)) ivalOrderCard

/-- THE TIED CARD OF 'muleteerlaw8.TfrcLimited'. -/
def tfrcLimitedCard : Claim7 := { stood := { row := tfrcLimitedRow, standIns := [], harness := (true, "8f6fc2019a05fd51a09c463bdb80a78de8d73548fd93cff067eeec64e832f3b4"), looks := true }, kinds := [], alts := [], laidByText := true, laidKinds := [.data, .data, .data, .data, .sentinel, .sentinel, .pinned], laidTests := true, laidLooks := .later }
def TfrcLimitedCardSaid : Prop := Claim7.holds Tryz.pinned (.plain (OpenSpec.ofChange tfrcLimitedSpec)) tfrcLimitedCard

/-- THE TIED CARD OF 'muleteerlaw8.TfrcDoubles'. -/
def tfrcDoublesCard : Claim7 := { stood := { row := tfrcDoublesRow, standIns := [], harness := (true, "8f6fc2019a05fd51a09c463bdb80a78de8d73548fd93cff067eeec64e832f3b4"), looks := true }, kinds := [], alts := [], laidByText := true, laidKinds := [.data, .data, .data, .data, .sentinel, .sentinel, .pinned], laidTests := true, laidLooks := .later }
def TfrcDoublesCardSaid : Prop := Claim7.holds Tryz.pinned (.plain (OpenSpec.ofChange tfrcDoublesSpec)) tfrcDoublesCard

/-- THE TIED CARD OF 'muleteerlaw8.TfrcHalves'. -/
def tfrcHalvesCard : Claim7 := { stood := { row := tfrcHalvesRow, standIns := [], harness := (true, "8f6fc2019a05fd51a09c463bdb80a78de8d73548fd93cff067eeec64e832f3b4"), looks := true }, kinds := [], alts := [], laidByText := true, laidKinds := [.data, .data, .data, .data, .sentinel, .sentinel, .pinned], laidTests := true, laidLooks := .later }
def TfrcHalvesCardSaid : Prop := Claim7.holds Tryz.pinned (.plain (OpenSpec.ofChange tfrcHalvesSpec)) tfrcHalvesCard

/-- THE TIED CARD OF 'muleteerlaw8.RttAll'. -/
def rttAllCard : Claim7 := { stood := { row := rttAllRow, standIns := [], harness := (true, "8f6fc2019a05fd51a09c463bdb80a78de8d73548fd93cff067eeec64e832f3b4"), looks := true }, kinds := [], alts := [], laidByText := true, laidKinds := [.data, .data, .data, .data, .sentinel, .sentinel, .pinned], laidTests := true, laidLooks := .later }
def RttAllCardSaid : Prop := Claim7.holds Tryz.pinned (.plain (OpenSpec.ofChange rttAllSpec)) rttAllCard

/-- THE TIED CARD OF 'muleteerlaw8.IvalAll'. -/
def ivalAllCard : Claim7 := { stood := { row := ivalAllRow, standIns := [], harness := (true, "8f6fc2019a05fd51a09c463bdb80a78de8d73548fd93cff067eeec64e832f3b4"), looks := true }, kinds := [], alts := [], laidByText := true, laidKinds := [.data, .data, .data, .data, .sentinel, .sentinel, .pinned], laidTests := true, laidLooks := .later }
def IvalAllCardSaid : Prop := Claim7.holds Tryz.pinned (.plain (OpenSpec.ofChange ivalAllSpec)) ivalAllCard

/-- THE TIED CARD OF 'muleteerlaw8.WinFire'. -/
def winFireCard : Claim7 := { stood := { row := winFireRow, standIns := [], harness := (true, "8f6fc2019a05fd51a09c463bdb80a78de8d73548fd93cff067eeec64e832f3b4"), looks := true }, kinds := [], alts := [], laidByText := true, laidKinds := [.data, .data, .data, .data, .sentinel, .sentinel, .pinned], laidTests := true, laidLooks := .later }
def WinFireCardSaid : Prop := Claim7.holds Tryz.pinned (.plain (OpenSpec.ofChange winFireSpec)) winFireCard

/-- THE TIED CARD OF 'muleteerlaw8.WinAvoid'. -/
def winAvoidCard : Claim7 := { stood := { row := winAvoidRow, standIns := [], harness := (true, "8f6fc2019a05fd51a09c463bdb80a78de8d73548fd93cff067eeec64e832f3b4"), looks := true }, kinds := [], alts := [], laidByText := true, laidKinds := [.data, .data, .data, .data, .sentinel, .sentinel, .pinned], laidTests := true, laidLooks := .later }
def WinAvoidCardSaid : Prop := Claim7.holds Tryz.pinned (.plain (OpenSpec.ofChange winAvoidSpec)) winAvoidCard

/-- THE TIED CARD OF 'muleteerlaw8.WinSlow'. -/
def winSlowCard : Claim7 := { stood := { row := winSlowRow, standIns := [], harness := (true, "8f6fc2019a05fd51a09c463bdb80a78de8d73548fd93cff067eeec64e832f3b4"), looks := true }, kinds := [], alts := [], laidByText := true, laidKinds := [.data, .data, .data, .data, .sentinel, .sentinel, .pinned], laidTests := true, laidLooks := .later }
def WinSlowCardSaid : Prop := Claim7.holds Tryz.pinned (.plain (OpenSpec.ofChange winSlowSpec)) winSlowCard

/-- THE TIED CARD OF 'muleteerlaw8.WinMarks'. -/
def winMarksCard : Claim7 := { stood := { row := winMarksRow, standIns := [], harness := (true, "8f6fc2019a05fd51a09c463bdb80a78de8d73548fd93cff067eeec64e832f3b4"), looks := true }, kinds := [], alts := [], laidByText := true, laidKinds := [.data, .data, .data, .data, .sentinel, .sentinel, .pinned], laidTests := true, laidLooks := .later }
def WinMarksCardSaid : Prop := Claim7.holds Tryz.pinned (.plain (OpenSpec.ofChange winMarksSpec)) winMarksCard

/-- THE TIED CARD OF 'muleteerlaw8.WinHalf'. -/
def winHalfCard : Claim7 := { stood := { row := winHalfRow, standIns := [], harness := (true, "8f6fc2019a05fd51a09c463bdb80a78de8d73548fd93cff067eeec64e832f3b4"), looks := true }, kinds := [], alts := [], laidByText := true, laidKinds := [.data, .data, .data, .data, .sentinel, .sentinel, .pinned], laidTests := true, laidLooks := .later }
def WinHalfCardSaid : Prop := Claim7.holds Tryz.pinned (.plain (OpenSpec.ofChange winHalfSpec)) winHalfCard

/-- THE TIED CARD OF 'muleteerlaw8.RatesNone'. -/
def ratesNoneCard : Claim7 := { stood := { row := ratesNoneRow, standIns := [], harness := (true, "8f6fc2019a05fd51a09c463bdb80a78de8d73548fd93cff067eeec64e832f3b4"), looks := true }, kinds := [], alts := [], laidByText := true, laidKinds := [.data, .data, .data, .data, .sentinel, .sentinel, .pinned], laidTests := true, laidLooks := .later }
def RatesNoneCardSaid : Prop := Claim7.holds Tryz.pinned (.plain (OpenSpec.ofChange ratesNoneSpec)) ratesNoneCard

/-- THE SECOND FORM's CARD OF 'muleteerlaw8.IvalOrder'. -/
def ivalOrderUptoCard : Claim7 := { stood := { row := ivalOrderUptoRow, standIns := [], harness := (true, "8f6fc2019a05fd51a09c463bdb80a78de8d73548fd93cff067eeec64e832f3b4"), looks := true }, kinds := [], alts := [], laidByText := true, laidKinds := [.data, .data, .data, .data, .sentinel, .sentinel, .pinned], laidTests := true, laidLooks := .later }
def IvalOrderUptoCardSaid : Prop := Claim7.holds Tryz.pinned (.plain (OpenSpec.upto ivalOrderSpec)) ivalOrderUptoCard

/-- THE SECOND FORM's CARD OF 'muleteerlaw8.TfrcLimited'. -/
def tfrcLimitedUptoCard : Claim7 := { stood := { row := tfrcLimitedUptoRow, standIns := [], harness := (true, "8f6fc2019a05fd51a09c463bdb80a78de8d73548fd93cff067eeec64e832f3b4"), looks := true }, kinds := [], alts := [], laidByText := true, laidKinds := [.data, .data, .data, .data, .sentinel, .sentinel, .pinned], laidTests := true, laidLooks := .later }
def TfrcLimitedUptoCardSaid : Prop := Claim7.holds Tryz.pinned (.plain (OpenSpec.upto tfrcLimitedSpec)) tfrcLimitedUptoCard

/-- THE SECOND FORM's CARD OF 'muleteerlaw8.TfrcDoubles'. -/
def tfrcDoublesUptoCard : Claim7 := { stood := { row := tfrcDoublesUptoRow, standIns := [], harness := (true, "8f6fc2019a05fd51a09c463bdb80a78de8d73548fd93cff067eeec64e832f3b4"), looks := true }, kinds := [], alts := [], laidByText := true, laidKinds := [.data, .data, .data, .data, .sentinel, .sentinel, .pinned], laidTests := true, laidLooks := .later }
def TfrcDoublesUptoCardSaid : Prop := Claim7.holds Tryz.pinned (.plain (OpenSpec.upto tfrcDoublesSpec)) tfrcDoublesUptoCard

/-- THE SECOND FORM's CARD OF 'muleteerlaw8.TfrcHalves'. -/
def tfrcHalvesUptoCard : Claim7 := { stood := { row := tfrcHalvesUptoRow, standIns := [], harness := (true, "8f6fc2019a05fd51a09c463bdb80a78de8d73548fd93cff067eeec64e832f3b4"), looks := true }, kinds := [], alts := [], laidByText := true, laidKinds := [.data, .data, .data, .data, .sentinel, .sentinel, .pinned], laidTests := true, laidLooks := .later }
def TfrcHalvesUptoCardSaid : Prop := Claim7.holds Tryz.pinned (.plain (OpenSpec.upto tfrcHalvesSpec)) tfrcHalvesUptoCard

/-- THE SECOND FORM's CARD OF 'muleteerlaw8.RttAll'. -/
def rttAllUptoCard : Claim7 := { stood := { row := rttAllUptoRow, standIns := [], harness := (true, "8f6fc2019a05fd51a09c463bdb80a78de8d73548fd93cff067eeec64e832f3b4"), looks := true }, kinds := [], alts := [], laidByText := true, laidKinds := [.data, .data, .data, .data, .sentinel, .sentinel, .pinned], laidTests := true, laidLooks := .later }
def RttAllUptoCardSaid : Prop := Claim7.holds Tryz.pinned (.plain (OpenSpec.upto rttAllSpec)) rttAllUptoCard

/-- THE SECOND FORM's CARD OF 'muleteerlaw8.IvalAll'. -/
def ivalAllUptoCard : Claim7 := { stood := { row := ivalAllUptoRow, standIns := [], harness := (true, "8f6fc2019a05fd51a09c463bdb80a78de8d73548fd93cff067eeec64e832f3b4"), looks := true }, kinds := [], alts := [], laidByText := true, laidKinds := [.data, .data, .data, .data, .sentinel, .sentinel, .pinned], laidTests := true, laidLooks := .later }
def IvalAllUptoCardSaid : Prop := Claim7.holds Tryz.pinned (.plain (OpenSpec.upto ivalAllSpec)) ivalAllUptoCard

/-- THE SECOND FORM's CARD OF 'muleteerlaw8.WinFire'. -/
def winFireUptoCard : Claim7 := { stood := { row := winFireUptoRow, standIns := [], harness := (true, "8f6fc2019a05fd51a09c463bdb80a78de8d73548fd93cff067eeec64e832f3b4"), looks := true }, kinds := [], alts := [], laidByText := true, laidKinds := [.data, .data, .data, .data, .sentinel, .sentinel, .pinned], laidTests := true, laidLooks := .later }
def WinFireUptoCardSaid : Prop := Claim7.holds Tryz.pinned (.plain (OpenSpec.upto winFireSpec)) winFireUptoCard

/-- THE SECOND FORM's CARD OF 'muleteerlaw8.WinAvoid'. -/
def winAvoidUptoCard : Claim7 := { stood := { row := winAvoidUptoRow, standIns := [], harness := (true, "8f6fc2019a05fd51a09c463bdb80a78de8d73548fd93cff067eeec64e832f3b4"), looks := true }, kinds := [], alts := [], laidByText := true, laidKinds := [.data, .data, .data, .data, .sentinel, .sentinel, .pinned], laidTests := true, laidLooks := .later }
def WinAvoidUptoCardSaid : Prop := Claim7.holds Tryz.pinned (.plain (OpenSpec.upto winAvoidSpec)) winAvoidUptoCard

/-- THE SECOND FORM's CARD OF 'muleteerlaw8.WinSlow'. -/
def winSlowUptoCard : Claim7 := { stood := { row := winSlowUptoRow, standIns := [], harness := (true, "8f6fc2019a05fd51a09c463bdb80a78de8d73548fd93cff067eeec64e832f3b4"), looks := true }, kinds := [], alts := [], laidByText := true, laidKinds := [.data, .data, .data, .data, .sentinel, .sentinel, .pinned], laidTests := true, laidLooks := .later }
def WinSlowUptoCardSaid : Prop := Claim7.holds Tryz.pinned (.plain (OpenSpec.upto winSlowSpec)) winSlowUptoCard

/-- THE SECOND FORM's CARD OF 'muleteerlaw8.WinMarks'. -/
def winMarksUptoCard : Claim7 := { stood := { row := winMarksUptoRow, standIns := [], harness := (true, "8f6fc2019a05fd51a09c463bdb80a78de8d73548fd93cff067eeec64e832f3b4"), looks := true }, kinds := [], alts := [], laidByText := true, laidKinds := [.data, .data, .data, .data, .sentinel, .sentinel, .pinned], laidTests := true, laidLooks := .later }
def WinMarksUptoCardSaid : Prop := Claim7.holds Tryz.pinned (.plain (OpenSpec.upto winMarksSpec)) winMarksUptoCard

/-- THE SECOND FORM's CARD OF 'muleteerlaw8.WinHalf'. -/
def winHalfUptoCard : Claim7 := { stood := { row := winHalfUptoRow, standIns := [], harness := (true, "8f6fc2019a05fd51a09c463bdb80a78de8d73548fd93cff067eeec64e832f3b4"), looks := true }, kinds := [], alts := [], laidByText := true, laidKinds := [.data, .data, .data, .data, .sentinel, .sentinel, .pinned], laidTests := true, laidLooks := .later }
def WinHalfUptoCardSaid : Prop := Claim7.holds Tryz.pinned (.plain (OpenSpec.upto winHalfSpec)) winHalfUptoCard

/-- THE SECOND FORM's CARD OF 'muleteerlaw8.RatesNone'. -/
def ratesNoneUptoCard : Claim7 := { stood := { row := ratesNoneUptoRow, standIns := [], harness := (true, "8f6fc2019a05fd51a09c463bdb80a78de8d73548fd93cff067eeec64e832f3b4"), looks := true }, kinds := [], alts := [], laidByText := true, laidKinds := [.data, .data, .data, .data, .sentinel, .sentinel, .pinned], laidTests := true, laidLooks := .later }
def RatesNoneUptoCardSaid : Prop := Claim7.holds Tryz.pinned (.plain (OpenSpec.upto ratesNoneSpec)) ratesNoneUptoCard
end Rows
end Go.Proofs.YtopcljhdejindaaGreatDoor
