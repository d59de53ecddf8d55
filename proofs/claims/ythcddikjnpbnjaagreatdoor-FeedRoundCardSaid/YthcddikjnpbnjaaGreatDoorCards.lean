/-
  DERIVED. GIVEN WITH THE SEED: THE CARDS: each row of YthcddikjnpbnjaaGreatDoorRows.lean that lists a variable, with what it lists TIED to the program's text (the seventh form; the later family's looks); each row that meets fmt, with fmt's text TOLD by the authors' own Lean function (tested against real Go, not proved from fmt's source: count such statements apart). THE CARD IS WHAT COUNTS. Prove the row's statement (the work); the ties are given (YthcddikjnpbnjaaGreatDoorTie.lean); close each card by the builder's one call (the guide's Derived/Test/ToyasCard.lean, 'card_holds'). Laid BY PROGRAM, IN A SANDBOX (cutbox-door.mjs). By AI agents, Wed Nov 11 2026. No macro, syntax, notation, axiom, sorry.
-/
import Derived.Test.YthcddikjnpbnjaaGreatDoorRows
import GoSem.ClaimSeven
namespace Go.Proofs.YthcddikjnpbnjaaGreatDoor
namespace Rows

/-- THE TIED CARD OF 'muleteerlaw8.FeedNone'. -/
def feedNoneCard : Claim7 := { stood := { row := feedNoneRow, standIns := [], harness := (true, "9dc8f48ab3559cf07e9d18c139dabf18427553c12cd7cf02eae8dc07fadfa7ed"), looks := true }, kinds := [], alts := [], laidByText := true, laidKinds := [.data, .data, .data, .data, .sentinel, .sentinel, .pinned], laidTests := true, laidLooks := .later }
def FeedNoneCardSaid : Prop := Claim7.holds Tryz.pinned (.plain (OpenSpec.ofChange feedNoneSpec)) feedNoneCard

/-- THE TIED CARD OF 'muleteerlaw8.FeedRate'. -/
def feedRateCard : Claim7 := { stood := { row := feedRateRow, standIns := [], harness := (true, "9dc8f48ab3559cf07e9d18c139dabf18427553c12cd7cf02eae8dc07fadfa7ed"), looks := true }, kinds := [], alts := [], laidByText := true, laidKinds := [.data, .data, .data, .data, .sentinel, .sentinel, .pinned], laidTests := true, laidLooks := .later }
def FeedRateCardSaid : Prop := Claim7.holds Tryz.pinned (.plain (OpenSpec.ofChange feedRateSpec)) feedRateCard

/-- THE TIED CARD OF 'muleteerlaw8.FeedRound'. -/
def feedRoundCard : Claim7 := { stood := { row := feedRoundRow, standIns := [], harness := (true, "9dc8f48ab3559cf07e9d18c139dabf18427553c12cd7cf02eae8dc07fadfa7ed"), looks := true }, kinds := [], alts := [], laidByText := true, laidKinds := [.data, .data, .data, .data, .sentinel, .sentinel, .pinned], laidTests := true, laidLooks := .later }
def FeedRoundCardSaid : Prop := Claim7.holds Tryz.pinned (.plain (OpenSpec.ofChange feedRoundSpec)) feedRoundCard

/-- THE TIED CARD OF 'muleteerlaw8.TfrcHalves'. -/
def tfrcHalvesCard : Claim7 := { stood := { row := tfrcHalvesRow, standIns := [], harness := (true, "9dc8f48ab3559cf07e9d18c139dabf18427553c12cd7cf02eae8dc07fadfa7ed"), looks := true }, kinds := [], alts := [], laidByText := true, laidKinds := [.data, .data, .data, .data, .sentinel, .sentinel, .pinned], laidTests := true, laidLooks := .later }
def TfrcHalvesCardSaid : Prop := Claim7.holds Tryz.pinned (.plain (OpenSpec.ofChange tfrcHalvesSpec)) tfrcHalvesCard

/-- THE TIED CARD OF 'muleteerlaw8.WinSlow'. -/
def winSlowCard : Claim7 := { stood := { row := winSlowRow, standIns := [], harness := (true, "9dc8f48ab3559cf07e9d18c139dabf18427553c12cd7cf02eae8dc07fadfa7ed"), looks := true }, kinds := [], alts := [], laidByText := true, laidKinds := [.data, .data, .data, .data, .sentinel, .sentinel, .pinned], laidTests := true, laidLooks := .later }
def WinSlowCardSaid : Prop := Claim7.holds Tryz.pinned (.plain (OpenSpec.ofChange winSlowSpec)) winSlowCard

/-- THE TIED CARD OF 'muleteerlaw8.VecAll'. -/
def vecAllCard : Claim7 := { stood := { row := vecAllRow, standIns := [], harness := (true, "9dc8f48ab3559cf07e9d18c139dabf18427553c12cd7cf02eae8dc07fadfa7ed"), looks := true }, kinds := [], alts := [], laidByText := true, laidKinds := [.data, .data, .data, .data, .sentinel, .sentinel, .pinned], laidTests := true, laidLooks := .later }
def VecAllCardSaid : Prop := Claim7.holds Tryz.pinned (.plain (OpenSpec.ofChange vecAllSpec)) vecAllCard

/-- THE TIED CARD OF 'muleteerlaw8.VecLong'. -/
def vecLongCard : Claim7 := { stood := { row := vecLongRow, standIns := [], harness := (true, "9dc8f48ab3559cf07e9d18c139dabf18427553c12cd7cf02eae8dc07fadfa7ed"), looks := true }, kinds := [], alts := [], laidByText := true, laidKinds := [.data, .data, .data, .data, .sentinel, .sentinel, .pinned], laidTests := true, laidLooks := .later }
def VecLongCardSaid : Prop := Claim7.holds Tryz.pinned (.plain (OpenSpec.ofChange vecLongSpec)) vecLongCard

/-- THE SECOND FORM's CARD OF 'muleteerlaw8.FeedNone'. -/
def feedNoneUptoCard : Claim7 := { stood := { row := feedNoneUptoRow, standIns := [], harness := (true, "9dc8f48ab3559cf07e9d18c139dabf18427553c12cd7cf02eae8dc07fadfa7ed"), looks := true }, kinds := [], alts := [], laidByText := true, laidKinds := [.data, .data, .data, .data, .sentinel, .sentinel, .pinned], laidTests := true, laidLooks := .later }
def FeedNoneUptoCardSaid : Prop := Claim7.holds Tryz.pinned (.plain (OpenSpec.upto feedNoneSpec)) feedNoneUptoCard

/-- THE SECOND FORM's CARD OF 'muleteerlaw8.FeedRate'. -/
def feedRateUptoCard : Claim7 := { stood := { row := feedRateUptoRow, standIns := [], harness := (true, "9dc8f48ab3559cf07e9d18c139dabf18427553c12cd7cf02eae8dc07fadfa7ed"), looks := true }, kinds := [], alts := [], laidByText := true, laidKinds := [.data, .data, .data, .data, .sentinel, .sentinel, .pinned], laidTests := true, laidLooks := .later }
def FeedRateUptoCardSaid : Prop := Claim7.holds Tryz.pinned (.plain (OpenSpec.upto feedRateSpec)) feedRateUptoCard

/-- THE SECOND FORM's CARD OF 'muleteerlaw8.FeedRound'. -/
def feedRoundUptoCard : Claim7 := { stood := { row := feedRoundUptoRow, standIns := [], harness := (true, "9dc8f48ab3559cf07e9d18c139dabf18427553c12cd7cf02eae8dc07fadfa7ed"), looks := true }, kinds := [], alts := [], laidByText := true, laidKinds := [.data, .data, .data, .data, .sentinel, .sentinel, .pinned], laidTests := true, laidLooks := .later }
def FeedRoundUptoCardSaid : Prop := Claim7.holds Tryz.pinned (.plain (OpenSpec.upto feedRoundSpec)) feedRoundUptoCard

/-- THE SECOND FORM's CARD OF 'muleteerlaw8.TfrcHalves'. -/
def tfrcHalvesUptoCard : Claim7 := { stood := { row := tfrcHalvesUptoRow, standIns := [], harness := (true, "9dc8f48ab3559cf07e9d18c139dabf18427553c12cd7cf02eae8dc07fadfa7ed"), looks := true }, kinds := [], alts := [], laidByText := true, laidKinds := [.data, .data, .data, .data, .sentinel, .sentinel, .pinned], laidTests := true, laidLooks := .later }
def TfrcHalvesUptoCardSaid : Prop := Claim7.holds Tryz.pinned (.plain (OpenSpec.upto tfrcHalvesSpec)) tfrcHalvesUptoCard

/-- THE SECOND FORM's CARD OF 'muleteerlaw8.WinSlow'. -/
def winSlowUptoCard : Claim7 := { stood := { row := winSlowUptoRow, standIns := [], harness := (true, "9dc8f48ab3559cf07e9d18c139dabf18427553c12cd7cf02eae8dc07fadfa7ed"), looks := true }, kinds := [], alts := [], laidByText := true, laidKinds := [.data, .data, .data, .data, .sentinel, .sentinel, .pinned], laidTests := true, laidLooks := .later }
def WinSlowUptoCardSaid : Prop := Claim7.holds Tryz.pinned (.plain (OpenSpec.upto winSlowSpec)) winSlowUptoCard

/-- THE SECOND FORM's CARD OF 'muleteerlaw8.VecAll'. -/
def vecAllUptoCard : Claim7 := { stood := { row := vecAllUptoRow, standIns := [], harness := (true, "9dc8f48ab3559cf07e9d18c139dabf18427553c12cd7cf02eae8dc07fadfa7ed"), looks := true }, kinds := [], alts := [], laidByText := true, laidKinds := [.data, .data, .data, .data, .sentinel, .sentinel, .pinned], laidTests := true, laidLooks := .later }
def VecAllUptoCardSaid : Prop := Claim7.holds Tryz.pinned (.plain (OpenSpec.upto vecAllSpec)) vecAllUptoCard

/-- THE SECOND FORM's CARD OF 'muleteerlaw8.VecLong'. -/
def vecLongUptoCard : Claim7 := { stood := { row := vecLongUptoRow, standIns := [], harness := (true, "9dc8f48ab3559cf07e9d18c139dabf18427553c12cd7cf02eae8dc07fadfa7ed"), looks := true }, kinds := [], alts := [], laidByText := true, laidKinds := [.data, .data, .data, .data, .sentinel, .sentinel, .pinned], laidTests := true, laidLooks := .later }
def VecLongUptoCardSaid : Prop := Claim7.holds Tryz.pinned (.plain (OpenSpec.upto vecLongSpec)) vecLongUptoCard
end Rows
end Go.Proofs.YthcddikjnpbnjaaGreatDoor
