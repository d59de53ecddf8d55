/-
  DERIVED. GIVEN WITH THE SEED: THE CARDS: each row of YtinkhffncpmnaaaGreatDoorRows.lean that lists a variable, with what it lists TIED to the program's text (the seventh form; the later family's looks); each row that meets fmt, with fmt's text TOLD by the authors' own Lean function (tested against real Go, not proved from fmt's source: count such statements apart). THE CARD IS WHAT COUNTS. Prove the row's statement (the work); the ties are given (YtinkhffncpmnaaaGreatDoorTie.lean); close each card by the builder's one call (the guide's Derived/Test/ToyasCard.lean, 'card_holds'). Laid BY PROGRAM, IN A SANDBOX (cutbox-door.mjs). By AI agents, Wed Nov 11 2026. No macro, syntax, notation, axiom, sorry.
-/
import Derived.Test.YtinkhffncpmnaaaGreatDoorRows
import GoSem.ClaimSeven
namespace Go.Proofs.YtinkhffncpmnaaaGreatDoor
namespace Rows

/-- THE TIED CARD OF 'muleteerlaw8.VecMerge'. -/
def vecMergeCard : Claim7 := { stood := { row := vecMergeRow, standIns := [], harness := (true, "f07d96ebdc92b6f3069b0507195f18935680a5151de899583468b9b23e2c06c3"), looks := true }, kinds := [], alts := [], laidByText := true, laidKinds := [.data, .data, .data, .data, .sentinel, .sentinel, .pinned], laidTests := true, laidLooks := .later }
def VecMergeCardSaid : Prop := Claim7.holds Tryz.pinned (.plain (OpenSpec.ofChange vecMergeSpec)) vecMergeCard

/-- THE TIED CARD OF 'muleteerlaw8.EqnAll'. -/
def eqnAllCard : Claim7 := { stood := { row := eqnAllRow, standIns := [], harness := (true, "f07d96ebdc92b6f3069b0507195f18935680a5151de899583468b9b23e2c06c3"), looks := true }, kinds := [], alts := [], laidByText := true, laidKinds := [.data, .data, .data, .data, .sentinel, .sentinel, .pinned], laidTests := true, laidLooks := .later }
def EqnAllCardSaid : Prop := Claim7.holds Tryz.pinned (.plain (OpenSpec.ofChange eqnAllSpec)) eqnAllCard

/-- THE TIED CARD OF 'muleteerlaw8.EqnOrder'. -/
def eqnOrderCard : Claim7 := { stood := { row := eqnOrderRow, standIns := [], harness := (true, "f07d96ebdc92b6f3069b0507195f18935680a5151de899583468b9b23e2c06c3"), looks := true }, kinds := [], alts := [], laidByText := true, laidKinds := [.data, .data, .data, .data, .sentinel, .sentinel, .pinned], laidTests := true, laidLooks := .later }
def EqnOrderCardSaid : Prop := Claim7.holds Tryz.pinned (.plain (OpenSpec.ofChange eqnOrderSpec)) eqnOrderCard

/-- THE TIED CARD OF 'muleteerlaw8.VecRuns'. -/
def vecRunsCard : Claim7 := { stood := { row := vecRunsRow, standIns := [], harness := (true, "f07d96ebdc92b6f3069b0507195f18935680a5151de899583468b9b23e2c06c3"), looks := true }, kinds := [], alts := [], laidByText := true, laidKinds := [.data, .data, .data, .data, .sentinel, .sentinel, .pinned], laidTests := true, laidLooks := .later }
def VecRunsCardSaid : Prop := Claim7.holds Tryz.pinned (.plain (OpenSpec.ofChange vecRunsSpec)) vecRunsCard

/-- THE TIED CARD OF 'muleteerlaw8.GotVector'. -/
def gotVectorCard : Claim7 := { stood := { row := gotVectorRow, standIns := [], harness := (true, "f07d96ebdc92b6f3069b0507195f18935680a5151de899583468b9b23e2c06c3"), looks := true }, kinds := [], alts := [], laidByText := true, laidKinds := [.data, .data, .data, .data, .sentinel, .sentinel, .pinned], laidTests := true, laidLooks := .later }
def GotVectorCardSaid : Prop := Claim7.holds Tryz.pinned (.plain (OpenSpec.ofChange gotVectorSpec)) gotVectorCard

/-- THE TIED CARD OF 'muleteerlaw8.SentThree'. -/
def sentThreeCard : Claim7 := { stood := { row := sentThreeRow, standIns := [], harness := (true, "f07d96ebdc92b6f3069b0507195f18935680a5151de899583468b9b23e2c06c3"), looks := true }, kinds := [], alts := [], laidByText := true, laidKinds := [.data, .data, .data, .data, .sentinel, .sentinel, .pinned], laidTests := true, laidLooks := .later }
def SentThreeCardSaid : Prop := Claim7.holds Tryz.pinned (.plain (OpenSpec.ofChange sentThreeSpec)) sentThreeCard

/-- THE TIED CARD OF 'muleteerlaw8.SentUnknown'. -/
def sentUnknownCard : Claim7 := { stood := { row := sentUnknownRow, standIns := [], harness := (true, "f07d96ebdc92b6f3069b0507195f18935680a5151de899583468b9b23e2c06c3"), looks := true }, kinds := [], alts := [], laidByText := true, laidKinds := [.data, .data, .data, .data, .sentinel, .sentinel, .pinned], laidTests := true, laidLooks := .later }
def SentUnknownCardSaid : Prop := Claim7.holds Tryz.pinned (.plain (OpenSpec.ofChange sentUnknownSpec)) sentUnknownCard

/-- THE TIED CARD OF 'muleteerlaw8.IvalOrder'. -/
def ivalOrderCard : Claim7 := { stood := { row := ivalOrderRow, standIns := [], harness := (true, "f07d96ebdc92b6f3069b0507195f18935680a5151de899583468b9b23e2c06c3"), looks := true }, kinds := [], alts := [], laidByText := true, laidKinds := [.data, .data, .data, .data, .sentinel, .sentinel, .pinned], laidTests := true, laidLooks := .later }
def IvalOrderCardSaid : Prop := Claim7.holds Tryz.pinned (.plain (OpenSpec.ofChange ivalOrderSpec)) ivalOrderCard

/-- THE TIED CARD OF 'muleteerlaw8.EqnTrue'. -/
def eqnTrueCard : Claim7 := { stood := { row := eqnTrueRow, standIns := [], harness := (true, "f07d96ebdc92b6f3069b0507195f18935680a5151de899583468b9b23e2c06c3"), looks := true }, kinds := [], alts := [], laidByText := true, laidKinds := [.data, .data, .data, .data, .sentinel, .sentinel, .pinned], laidTests := true, laidLooks := .later }
def EqnTrueCardSaid : Prop := Claim7.holds Tryz.pinned (.plain (OpenSpec.ofChange eqnTrueSpec)) eqnTrueCard

/-- THE TIED CARD OF 'muleteerlaw8.TfrcDoubles'. -/
def tfrcDoublesCard : Claim7 := { stood := { row := tfrcDoublesRow, standIns := [], harness := (true, "f07d96ebdc92b6f3069b0507195f18935680a5151de899583468b9b23e2c06c3"), looks := true }, kinds := [], alts := [], laidByText := true, laidKinds := [.data, .data, .data, .data, .sentinel, .sentinel, .pinned], laidTests := true, laidLooks := .later }
def TfrcDoublesCardSaid : Prop := Claim7.holds Tryz.pinned (.plain (OpenSpec.ofChange tfrcDoublesSpec)) tfrcDoublesCard

/-- THE TIED CARD OF 'muleteerlaw8.GotFar'. -/
def gotFarCard : Claim7 := { stood := { row := gotFarRow, standIns := [], harness := (true, "f07d96ebdc92b6f3069b0507195f18935680a5151de899583468b9b23e2c06c3"), looks := true }, kinds := [], alts := [], laidByText := true, laidKinds := [.data, .data, .data, .data, .sentinel, .sentinel, .pinned], laidTests := true, laidLooks := .later }
def GotFarCardSaid : Prop := Claim7.holds Tryz.pinned (.plain (OpenSpec.ofChange gotFarSpec)) gotFarCard

/-- THE TIED CARD OF 'muleteerlaw8.SentRtt'. -/
def sentRttCard : Claim7 := { stood := { row := sentRttRow, standIns := [], harness := (true, "f07d96ebdc92b6f3069b0507195f18935680a5151de899583468b9b23e2c06c3"), looks := true }, kinds := [], alts := [], laidByText := true, laidKinds := [.data, .data, .data, .data, .sentinel, .sentinel, .pinned], laidTests := true, laidLooks := .later }
def SentRttCardSaid : Prop := Claim7.holds Tryz.pinned (.plain (OpenSpec.ofChange sentRttSpec)) sentRttCard

/-- THE SECOND FORM's CARD OF 'muleteerlaw8.VecMerge'. -/
def vecMergeUptoCard : Claim7 := { stood := { row := vecMergeUptoRow, standIns := [], harness := (true, "f07d96ebdc92b6f3069b0507195f18935680a5151de899583468b9b23e2c06c3"), looks := true }, kinds := [], alts := [], laidByText := true, laidKinds := [.data, .data, .data, .data, .sentinel, .sentinel, .pinned], laidTests := true, laidLooks := .later }
def VecMergeUptoCardSaid : Prop := Claim7.holds Tryz.pinned (.plain (OpenSpec.upto vecMergeSpec)) vecMergeUptoCard

/-- THE SECOND FORM's CARD OF 'muleteerlaw8.EqnAll'. -/
def eqnAllUptoCard : Claim7 := { stood := { row := eqnAllUptoRow, standIns := [], harness := (true, "f07d96ebdc92b6f3069b0507195f18935680a5151de899583468b9b23e2c06c3"), looks := true }, kinds := [], alts := [], laidByText := true, laidKinds := [.data, .data, .data, .data, .sentinel, .sentinel, .pinned], laidTests := true, laidLooks := .later }
def EqnAllUptoCardSaid : Prop := Claim7.holds Tryz.pinned (.plain (OpenSpec.upto eqnAllSpec)) eqnAllUptoCard

/-- THE SECOND FORM's CARD OF 'muleteerlaw8.EqnOrder'. -/
def eqnOrderUptoCard : Claim7 := { stood := { row := eqnOrderUptoRow, standIns := [], harness := (true, "f07d96ebdc92b6f3069b0507195f18935680a5151de899583468b9b23e2c06c3"), looks := true }, kinds := [], alts := [], laidByText := true, laidKinds := [.data, .data, .data, .data, .sentinel, .sentinel, .pinned], laidTests := true, laidLooks := .later }
def EqnOrderUptoCardSaid : Prop := Claim7.holds Tryz.pinned (.plain (OpenSpec.upto eqnOrderSpec)) eqnOrderUptoCard

/-- THE SECOND FORM's CARD OF 'muleteerlaw8.VecRuns'. -/
def vecRunsUptoCard : Claim7 := { stood := { row := vecRunsUptoRow, standIns := [], harness := (true, "f07d96ebdc92b6f3069b0507195f18935680a5151de899583468b9b23e2c06c3"), looks := true }, kinds := [], alts := [], laidByText := true, laidKinds := [.data, .data, .data, .data, .sentinel, .sentinel, .pinned], laidTests := true, laidLooks := .later }
def VecRunsUptoCardSaid : Prop := Claim7.holds Tryz.pinned (.plain (OpenSpec.upto vecRunsSpec)) vecRunsUptoCard

/-- THE SECOND FORM's CARD OF 'muleteerlaw8.GotVector'. -/
def gotVectorUptoCard : Claim7 := { stood := { row := gotVectorUptoRow, standIns := [], harness := (true, "f07d96ebdc92b6f3069b0507195f18935680a5151de899583468b9b23e2c06c3"), looks := true }, kinds := [], alts := [], laidByText := true, laidKinds := [.data, .data, .data, .data, .sentinel, .sentinel, .pinned], laidTests := true, laidLooks := .later }
def GotVectorUptoCardSaid : Prop := Claim7.holds Tryz.pinned (.plain (OpenSpec.upto gotVectorSpec)) gotVectorUptoCard

/-- THE SECOND FORM's CARD OF 'muleteerlaw8.SentThree'. -/
def sentThreeUptoCard : Claim7 := { stood := { row := sentThreeUptoRow, standIns := [], harness := (true, "f07d96ebdc92b6f3069b0507195f18935680a5151de899583468b9b23e2c06c3"), looks := true }, kinds := [], alts := [], laidByText := true, laidKinds := [.data, .data, .data, .data, .sentinel, .sentinel, .pinned], laidTests := true, laidLooks := .later }
def SentThreeUptoCardSaid : Prop := Claim7.holds Tryz.pinned (.plain (OpenSpec.upto sentThreeSpec)) sentThreeUptoCard

/-- THE SECOND FORM's CARD OF 'muleteerlaw8.SentUnknown'. -/
def sentUnknownUptoCard : Claim7 := { stood := { row := sentUnknownUptoRow, standIns := [], harness := (true, "f07d96ebdc92b6f3069b0507195f18935680a5151de899583468b9b23e2c06c3"), looks := true }, kinds := [], alts := [], laidByText := true, laidKinds := [.data, .data, .data, .data, .sentinel, .sentinel, .pinned], laidTests := true, laidLooks := .later }
def SentUnknownUptoCardSaid : Prop := Claim7.holds Tryz.pinned (.plain (OpenSpec.upto sentUnknownSpec)) sentUnknownUptoCard

/-- THE SECOND FORM's CARD OF 'muleteerlaw8.IvalOrder'. -/
def ivalOrderUptoCard : Claim7 := { stood := { row := ivalOrderUptoRow, standIns := [], harness := (true, "f07d96ebdc92b6f3069b0507195f18935680a5151de899583468b9b23e2c06c3"), looks := true }, kinds := [], alts := [], laidByText := true, laidKinds := [.data, .data, .data, .data, .sentinel, .sentinel, .pinned], laidTests := true, laidLooks := .later }
def IvalOrderUptoCardSaid : Prop := Claim7.holds Tryz.pinned (.plain (OpenSpec.upto ivalOrderSpec)) ivalOrderUptoCard

/-- THE SECOND FORM's CARD OF 'muleteerlaw8.EqnTrue'. -/
def eqnTrueUptoCard : Claim7 := { stood := { row := eqnTrueUptoRow, standIns := [], harness := (true, "f07d96ebdc92b6f3069b0507195f18935680a5151de899583468b9b23e2c06c3"), looks := true }, kinds := [], alts := [], laidByText := true, laidKinds := [.data, .data, .data, .data, .sentinel, .sentinel, .pinned], laidTests := true, laidLooks := .later }
def EqnTrueUptoCardSaid : Prop := Claim7.holds Tryz.pinned (.plain (OpenSpec.upto eqnTrueSpec)) eqnTrueUptoCard

/-- THE SECOND FORM's CARD OF 'muleteerlaw8.TfrcDoubles'. -/
def tfrcDoublesUptoCard : Claim7 := { stood := { row := tfrcDoublesUptoRow, standIns := [], harness := (true, "f07d96ebdc92b6f3069b0507195f18935680a5151de899583468b9b23e2c06c3"), looks := true }, kinds := [], alts := [], laidByText := true, laidKinds := [.data, .data, .data, .data, .sentinel, .sentinel, .pinned], laidTests := true, laidLooks := .later }
def TfrcDoublesUptoCardSaid : Prop := Claim7.holds Tryz.pinned (.plain (OpenSpec.upto tfrcDoublesSpec)) tfrcDoublesUptoCard

/-- THE SECOND FORM's CARD OF 'muleteerlaw8.GotFar'. -/
def gotFarUptoCard : Claim7 := { stood := { row := gotFarUptoRow, standIns := [], harness := (true, "f07d96ebdc92b6f3069b0507195f18935680a5151de899583468b9b23e2c06c3"), looks := true }, kinds := [], alts := [], laidByText := true, laidKinds := [.data, .data, .data, .data, .sentinel, .sentinel, .pinned], laidTests := true, laidLooks := .later }
def GotFarUptoCardSaid : Prop := Claim7.holds Tryz.pinned (.plain (OpenSpec.upto gotFarSpec)) gotFarUptoCard

/-- THE SECOND FORM's CARD OF 'muleteerlaw8.SentRtt'. -/
def sentRttUptoCard : Claim7 := { stood := { row := sentRttUptoRow, standIns := [], harness := (true, "f07d96ebdc92b6f3069b0507195f18935680a5151de899583468b9b23e2c06c3"), looks := true }, kinds := [], alts := [], laidByText := true, laidKinds := [.data, .data, .data, .data, .sentinel, .sentinel, .pinned], laidTests := true, laidLooks := .later }
def SentRttUptoCardSaid : Prop := Claim7.holds Tryz.pinned (.plain (OpenSpec.upto sentRttSpec)) sentRttUptoCard
end Rows
end Go.Proofs.YtinkhffncpmnaaaGreatDoor
