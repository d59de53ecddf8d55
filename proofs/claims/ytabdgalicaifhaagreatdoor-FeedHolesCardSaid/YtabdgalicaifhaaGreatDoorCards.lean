/-
  DERIVED. GIVEN WITH THE SEED: THE CARDS: each row of YtabdgalicaifhaaGreatDoorRows.lean that lists a variable, with what it lists TIED to the program's text (the seventh form; the later family's looks); each row that meets fmt, with fmt's text TOLD by the authors' own Lean function (tested against real Go, not proved from fmt's source: count such statements apart). THE CARD IS WHAT COUNTS. Prove the row's statement (the work); the ties are given (YtabdgalicaifhaaGreatDoorTie.lean); close each card by the builder's one call (the guide's Derived/Test/ToyasCard.lean, 'card_holds'). Laid BY PROGRAM, IN A SANDBOX (cutbox-door.mjs). By AI agents, Wed Nov 11 2026. No macro, syntax, notation, axiom, sorry.
-/
import Derived.Test.YtabdgalicaifhaaGreatDoorRows
import GoSem.ClaimSeven
namespace Go.Proofs.YtabdgalicaifhaaGreatDoor
namespace Rows

/-- THE TIED CARD OF 'muleteerlaw8.SentFull'. -/
def sentFullCard : Claim7 := { stood := { row := sentFullRow, standIns := [], harness := (true, "60e4b7e270f706841e12084fcb8c41081c838260caa933684fd2109337881e11"), looks := true }, kinds := [], alts := [], laidByText := true, laidKinds := [.data, .data, .data, .data, .sentinel, .sentinel, .pinned], laidTests := true, laidLooks := .later }
def SentFullCardSaid : Prop := Claim7.holds Tryz.pinned (.plain (OpenSpec.ofChange sentFullSpec)) sentFullCard

/-- THE TIED CARD OF 'muleteerlaw8.SentRtt'. -/
def sentRttCard : Claim7 := { stood := { row := sentRttRow, standIns := [], harness := (true, "60e4b7e270f706841e12084fcb8c41081c838260caa933684fd2109337881e11"), looks := true }, kinds := [], alts := [], laidByText := true, laidKinds := [.data, .data, .data, .data, .sentinel, .sentinel, .pinned], laidTests := true, laidLooks := .later }
def SentRttCardSaid : Prop := Claim7.holds Tryz.pinned (.plain (OpenSpec.ofChange sentRttSpec)) sentRttCard

/-- THE TIED CARD OF 'muleteerlaw8.SentThree'. -/
def sentThreeCard : Claim7 := { stood := { row := sentThreeRow, standIns := [], harness := (true, "60e4b7e270f706841e12084fcb8c41081c838260caa933684fd2109337881e11"), looks := true }, kinds := [], alts := [], laidByText := true, laidKinds := [.data, .data, .data, .data, .sentinel, .sentinel, .pinned], laidTests := true, laidLooks := .later }
def SentThreeCardSaid : Prop := Claim7.holds Tryz.pinned (.plain (OpenSpec.ofChange sentThreeSpec)) sentThreeCard

/-- THE TIED CARD OF 'muleteerlaw8.SentUnknown'. -/
def sentUnknownCard : Claim7 := { stood := { row := sentUnknownRow, standIns := [], harness := (true, "60e4b7e270f706841e12084fcb8c41081c838260caa933684fd2109337881e11"), looks := true }, kinds := [], alts := [], laidByText := true, laidKinds := [.data, .data, .data, .data, .sentinel, .sentinel, .pinned], laidTests := true, laidLooks := .later }
def SentUnknownCardSaid : Prop := Claim7.holds Tryz.pinned (.plain (OpenSpec.ofChange sentUnknownSpec)) sentUnknownCard

/-- THE TIED CARD OF 'muleteerlaw8.FeedNone'. -/
def feedNoneCard : Claim7 := { stood := { row := feedNoneRow, standIns := [], harness := (true, "60e4b7e270f706841e12084fcb8c41081c838260caa933684fd2109337881e11"), looks := true }, kinds := [], alts := [], laidByText := true, laidKinds := [.data, .data, .data, .data, .sentinel, .sentinel, .pinned], laidTests := true, laidLooks := .later }
def FeedNoneCardSaid : Prop := Claim7.holds Tryz.pinned (.plain (OpenSpec.ofChange feedNoneSpec)) feedNoneCard

/-- THE TIED CARD OF 'muleteerlaw8.FeedHoles'. -/
def feedHolesCard : Claim7 := { stood := { row := feedHolesRow, standIns := [], harness := (true, "60e4b7e270f706841e12084fcb8c41081c838260caa933684fd2109337881e11"), looks := true }, kinds := [], alts := [], laidByText := true, laidKinds := [.data, .data, .data, .data, .sentinel, .sentinel, .pinned], laidTests := true, laidLooks := .later }
def FeedHolesCardSaid : Prop := Claim7.holds Tryz.pinned (.plain (OpenSpec.ofChange feedHolesSpec)) feedHolesCard

/-- THE TIED CARD OF 'muleteerlaw8.FeedRate'. -/
def feedRateCard : Claim7 := { stood := { row := feedRateRow, standIns := [], harness := (true, "60e4b7e270f706841e12084fcb8c41081c838260caa933684fd2109337881e11"), looks := true }, kinds := [], alts := [], laidByText := true, laidKinds := [.data, .data, .data, .data, .sentinel, .sentinel, .pinned], laidTests := true, laidLooks := .later }
def FeedRateCardSaid : Prop := Claim7.holds Tryz.pinned (.plain (OpenSpec.ofChange feedRateSpec)) feedRateCard

/-- THE TIED CARD OF 'muleteerlaw8.FeedRound'. -/
def feedRoundCard : Claim7 := { stood := { row := feedRoundRow, standIns := [], harness := (true, "60e4b7e270f706841e12084fcb8c41081c838260caa933684fd2109337881e11"), looks := true }, kinds := [], alts := [], laidByText := true, laidKinds := [.data, .data, .data, .data, .sentinel, .sentinel, .pinned], laidTests := true, laidLooks := .later }
def FeedRoundCardSaid : Prop := Claim7.holds Tryz.pinned (.plain (OpenSpec.ofChange feedRoundSpec)) feedRoundCard

/-- THE TIED CARD OF 'muleteerlaw8.VecRuns'. -/
def vecRunsCard : Claim7 := { stood := { row := vecRunsRow, standIns := [], harness := (true, "60e4b7e270f706841e12084fcb8c41081c838260caa933684fd2109337881e11"), looks := true }, kinds := [], alts := [], laidByText := true, laidKinds := [.data, .data, .data, .data, .sentinel, .sentinel, .pinned], laidTests := true, laidLooks := .later }
def VecRunsCardSaid : Prop := Claim7.holds Tryz.pinned (.plain (OpenSpec.ofChange vecRunsSpec)) vecRunsCard

/-- THE TIED CARD OF 'muleteerlaw8.GotFar'. -/
def gotFarCard : Claim7 := { stood := { row := gotFarRow, standIns := [], harness := (true, "60e4b7e270f706841e12084fcb8c41081c838260caa933684fd2109337881e11"), looks := true }, kinds := [], alts := [], laidByText := true, laidKinds := [.data, .data, .data, .data, .sentinel, .sentinel, .pinned], laidTests := true, laidLooks := .later }
def GotFarCardSaid : Prop := Claim7.holds Tryz.pinned (.plain (OpenSpec.ofChange gotFarSpec)) gotFarCard

/-- THE TIED CARD OF 'muleteerlaw8.GotVector'. -/
def gotVectorCard : Claim7 := { stood := { row := gotVectorRow, standIns := [], harness := (true, "60e4b7e270f706841e12084fcb8c41081c838260caa933684fd2109337881e11"), looks := true }, kinds := [], alts := [], laidByText := true, laidKinds := [.data, .data, .data, .data, .sentinel, .sentinel, .pinned], laidTests := true, laidLooks := .later }
def GotVectorCardSaid : Prop := Claim7.holds Tryz.pinned (.plain (OpenSpec.ofChange gotVectorSpec)) gotVectorCard

/-- THE TIED CARD OF 'muleteerlaw8.GotForget'. -/
def gotForgetCard : Claim7 := { stood := { row := gotForgetRow, standIns := [], harness := (true, "60e4b7e270f706841e12084fcb8c41081c838260caa933684fd2109337881e11"), looks := true }, kinds := [], alts := [], laidByText := true, laidKinds := [.data, .data, .data, .data, .sentinel, .sentinel, .pinned], laidTests := true, laidLooks := .later }
def GotForgetCardSaid : Prop := Claim7.holds Tryz.pinned (.plain (OpenSpec.ofChange gotForgetSpec)) gotForgetCard

/-- THE SECOND FORM's CARD OF 'muleteerlaw8.SentFull'. -/
def sentFullUptoCard : Claim7 := { stood := { row := sentFullUptoRow, standIns := [], harness := (true, "60e4b7e270f706841e12084fcb8c41081c838260caa933684fd2109337881e11"), looks := true }, kinds := [], alts := [], laidByText := true, laidKinds := [.data, .data, .data, .data, .sentinel, .sentinel, .pinned], laidTests := true, laidLooks := .later }
def SentFullUptoCardSaid : Prop := Claim7.holds Tryz.pinned (.plain (OpenSpec.upto sentFullSpec)) sentFullUptoCard

/-- THE SECOND FORM's CARD OF 'muleteerlaw8.SentRtt'. -/
def sentRttUptoCard : Claim7 := { stood := { row := sentRttUptoRow, standIns := [], harness := (true, "60e4b7e270f706841e12084fcb8c41081c838260caa933684fd2109337881e11"), looks := true }, kinds := [], alts := [], laidByText := true, laidKinds := [.data, .data, .data, .data, .sentinel, .sentinel, .pinned], laidTests := true, laidLooks := .later }
def SentRttUptoCardSaid : Prop := Claim7.holds Tryz.pinned (.plain (OpenSpec.upto sentRttSpec)) sentRttUptoCard

/-- THE SECOND FORM's CARD OF 'muleteerlaw8.SentThree'. -/
def sentThreeUptoCard : Claim7 := { stood := { row := sentThreeUptoRow, standIns := [], harness := (true, "60e4b7e270f706841e12084fcb8c41081c838260caa933684fd2109337881e11"), looks := true }, kinds := [], alts := [], laidByText := true, laidKinds := [.data, .data, .data, .data, .sentinel, .sentinel, .pinned], laidTests := true, laidLooks := .later }
def SentThreeUptoCardSaid : Prop := Claim7.holds Tryz.pinned (.plain (OpenSpec.upto sentThreeSpec)) sentThreeUptoCard

/-- THE SECOND FORM's CARD OF 'muleteerlaw8.SentUnknown'. -/
def sentUnknownUptoCard : Claim7 := { stood := { row := sentUnknownUptoRow, standIns := [], harness := (true, "60e4b7e270f706841e12084fcb8c41081c838260caa933684fd2109337881e11"), looks := true }, kinds := [], alts := [], laidByText := true, laidKinds := [.data, .data, .data, .data, .sentinel, .sentinel, .pinned], laidTests := true, laidLooks := .later }
def SentUnknownUptoCardSaid : Prop := Claim7.holds Tryz.pinned (.plain (OpenSpec.upto sentUnknownSpec)) sentUnknownUptoCard

/-- THE SECOND FORM's CARD OF 'muleteerlaw8.FeedNone'. -/
def feedNoneUptoCard : Claim7 := { stood := { row := feedNoneUptoRow, standIns := [], harness := (true, "60e4b7e270f706841e12084fcb8c41081c838260caa933684fd2109337881e11"), looks := true }, kinds := [], alts := [], laidByText := true, laidKinds := [.data, .data, .data, .data, .sentinel, .sentinel, .pinned], laidTests := true, laidLooks := .later }
def FeedNoneUptoCardSaid : Prop := Claim7.holds Tryz.pinned (.plain (OpenSpec.upto feedNoneSpec)) feedNoneUptoCard

/-- THE SECOND FORM's CARD OF 'muleteerlaw8.FeedHoles'. -/
def feedHolesUptoCard : Claim7 := { stood := { row := feedHolesUptoRow, standIns := [], harness := (true, "60e4b7e270f706841e12084fcb8c41081c838260caa933684fd2109337881e11"), looks := true }, kinds := [], alts := [], laidByText := true, laidKinds := [.data, .data, .data, .data, .sentinel, .sentinel, .pinned], laidTests := true, laidLooks := .later }
def FeedHolesUptoCardSaid : Prop := Claim7.holds Tryz.pinned (.plain (OpenSpec.upto feedHolesSpec)) feedHolesUptoCard

/-- THE SECOND FORM's CARD OF 'muleteerlaw8.FeedRate'. -/
def feedRateUptoCard : Claim7 := { stood := { row := feedRateUptoRow, standIns := [], harness := (true, "60e4b7e270f706841e12084fcb8c41081c838260caa933684fd2109337881e11"), looks := true }, kinds := [], alts := [], laidByText := true, laidKinds := [.data, .data, .data, .data, .sentinel, .sentinel, .pinned], laidTests := true, laidLooks := .later }
def FeedRateUptoCardSaid : Prop := Claim7.holds Tryz.pinned (.plain (OpenSpec.upto feedRateSpec)) feedRateUptoCard

/-- THE SECOND FORM's CARD OF 'muleteerlaw8.FeedRound'. -/
def feedRoundUptoCard : Claim7 := { stood := { row := feedRoundUptoRow, standIns := [], harness := (true, "60e4b7e270f706841e12084fcb8c41081c838260caa933684fd2109337881e11"), looks := true }, kinds := [], alts := [], laidByText := true, laidKinds := [.data, .data, .data, .data, .sentinel, .sentinel, .pinned], laidTests := true, laidLooks := .later }
def FeedRoundUptoCardSaid : Prop := Claim7.holds Tryz.pinned (.plain (OpenSpec.upto feedRoundSpec)) feedRoundUptoCard

/-- THE SECOND FORM's CARD OF 'muleteerlaw8.VecRuns'. -/
def vecRunsUptoCard : Claim7 := { stood := { row := vecRunsUptoRow, standIns := [], harness := (true, "60e4b7e270f706841e12084fcb8c41081c838260caa933684fd2109337881e11"), looks := true }, kinds := [], alts := [], laidByText := true, laidKinds := [.data, .data, .data, .data, .sentinel, .sentinel, .pinned], laidTests := true, laidLooks := .later }
def VecRunsUptoCardSaid : Prop := Claim7.holds Tryz.pinned (.plain (OpenSpec.upto vecRunsSpec)) vecRunsUptoCard

/-- THE SECOND FORM's CARD OF 'muleteerlaw8.GotFar'. -/
def gotFarUptoCard : Claim7 := { stood := { row := gotFarUptoRow, standIns := [], harness := (true, "60e4b7e270f706841e12084fcb8c41081c838260caa933684fd2109337881e11"), looks := true }, kinds := [], alts := [], laidByText := true, laidKinds := [.data, .data, .data, .data, .sentinel, .sentinel, .pinned], laidTests := true, laidLooks := .later }
def GotFarUptoCardSaid : Prop := Claim7.holds Tryz.pinned (.plain (OpenSpec.upto gotFarSpec)) gotFarUptoCard

/-- THE SECOND FORM's CARD OF 'muleteerlaw8.GotVector'. -/
def gotVectorUptoCard : Claim7 := { stood := { row := gotVectorUptoRow, standIns := [], harness := (true, "60e4b7e270f706841e12084fcb8c41081c838260caa933684fd2109337881e11"), looks := true }, kinds := [], alts := [], laidByText := true, laidKinds := [.data, .data, .data, .data, .sentinel, .sentinel, .pinned], laidTests := true, laidLooks := .later }
def GotVectorUptoCardSaid : Prop := Claim7.holds Tryz.pinned (.plain (OpenSpec.upto gotVectorSpec)) gotVectorUptoCard

/-- THE SECOND FORM's CARD OF 'muleteerlaw8.GotForget'. -/
def gotForgetUptoCard : Claim7 := { stood := { row := gotForgetUptoRow, standIns := [], harness := (true, "60e4b7e270f706841e12084fcb8c41081c838260caa933684fd2109337881e11"), looks := true }, kinds := [], alts := [], laidByText := true, laidKinds := [.data, .data, .data, .data, .sentinel, .sentinel, .pinned], laidTests := true, laidLooks := .later }
def GotForgetUptoCardSaid : Prop := Claim7.holds Tryz.pinned (.plain (OpenSpec.upto gotForgetSpec)) gotForgetUptoCard
end Rows
end Go.Proofs.YtabdgalicaifhaaGreatDoor
