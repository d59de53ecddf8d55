/-
  DERIVED. GIVEN WITH THE SEED: THE CARDS: each row of YtbjpcbghchfifaaGreatDoorRows.lean that lists a variable, with what it lists TIED to the program's text (the seventh form; the later family's looks); each row that meets fmt, with fmt's text TOLD by the authors' own Lean function (tested against real Go, not proved from fmt's source: count such statements apart). THE CARD IS WHAT COUNTS. Prove the row's statement (the work); the ties are given (YtbjpcbghchfifaaGreatDoorTie.lean); close each card by the builder's one call (the guide's Derived/Test/ToyasCard.lean, 'card_holds'). Laid BY PROGRAM, IN A SANDBOX (cutbox-door.mjs). By AI agents, Wed Nov 11 2026. No macro, syntax, notation, axiom, sorry.
-/
import Derived.Test.YtbjpcbghchfifaaGreatDoorRows
import GoSem.ClaimSeven
namespace Go.Proofs.YtbjpcbghchfifaaGreatDoor
namespace Rows

/-- THE TIED CARD OF 'muleteerlaw8.RttSteady'. -/
def rttSteadyCard : Claim7 := { stood := { row := rttSteadyRow, standIns := [], harness := (true, "47d901178d53bbfba34a0ce376f8a4f54a9f8af2d4ea551c8480e587fa93452e"), looks := true }, kinds := [], alts := [], laidByText := true, laidKinds := [.data, .data, .data, .data, .sentinel, .sentinel, .pinned], laidTests := true, laidLooks := .later }
def RttSteadyCardSaid : Prop := Claim7.holds Tryz.pinned (.plain (OpenSpec.ofChange rttSteadySpec)) rttSteadyCard

/-- THE TIED CARD OF 'muleteerlaw8.FeedNone'. -/
def feedNoneCard : Claim7 := { stood := { row := feedNoneRow, standIns := [], harness := (true, "47d901178d53bbfba34a0ce376f8a4f54a9f8af2d4ea551c8480e587fa93452e"), looks := true }, kinds := [], alts := [], laidByText := true, laidKinds := [.data, .data, .data, .data, .sentinel, .sentinel, .pinned], laidTests := true, laidLooks := .later }
def FeedNoneCardSaid : Prop := Claim7.holds Tryz.pinned (.plain (OpenSpec.ofChange feedNoneSpec)) feedNoneCard

/-- THE TIED CARD OF 'muleteerlaw8.FeedHoles'. -/
def feedHolesCard : Claim7 := { stood := { row := feedHolesRow, standIns := [], harness := (true, "47d901178d53bbfba34a0ce376f8a4f54a9f8af2d4ea551c8480e587fa93452e"), looks := true }, kinds := [], alts := [], laidByText := true, laidKinds := [.data, .data, .data, .data, .sentinel, .sentinel, .pinned], laidTests := true, laidLooks := .later }
def FeedHolesCardSaid : Prop := Claim7.holds Tryz.pinned (.plain (OpenSpec.ofChange feedHolesSpec)) feedHolesCard

/-- THE TIED CARD OF 'muleteerlaw8.SentFull'. -/
def sentFullCard : Claim7 := { stood := { row := sentFullRow, standIns := [], harness := (true, "47d901178d53bbfba34a0ce376f8a4f54a9f8af2d4ea551c8480e587fa93452e"), looks := true }, kinds := [], alts := [], laidByText := true, laidKinds := [.data, .data, .data, .data, .sentinel, .sentinel, .pinned], laidTests := true, laidLooks := .later }
def SentFullCardSaid : Prop := Claim7.holds Tryz.pinned (.plain (OpenSpec.ofChange sentFullSpec)) sentFullCard

/-- THE TIED CARD OF 'muleteerlaw8.FeedRate'. -/
def feedRateCard : Claim7 := { stood := { row := feedRateRow, standIns := [], harness := (true, "47d901178d53bbfba34a0ce376f8a4f54a9f8af2d4ea551c8480e587fa93452e"), looks := true }, kinds := [], alts := [], laidByText := true, laidKinds := [.data, .data, .data, .data, .sentinel, .sentinel, .pinned], laidTests := true, laidLooks := .later }
def FeedRateCardSaid : Prop := Claim7.holds Tryz.pinned (.plain (OpenSpec.ofChange feedRateSpec)) feedRateCard

/-- THE TIED CARD OF 'muleteerlaw8.FeedRound'. -/
def feedRoundCard : Claim7 := { stood := { row := feedRoundRow, standIns := [], harness := (true, "47d901178d53bbfba34a0ce376f8a4f54a9f8af2d4ea551c8480e587fa93452e"), looks := true }, kinds := [], alts := [], laidByText := true, laidKinds := [.data, .data, .data, .data, .sentinel, .sentinel, .pinned], laidTests := true, laidLooks := .later }
def FeedRoundCardSaid : Prop := Claim7.holds Tryz.pinned (.plain (OpenSpec.ofChange feedRoundSpec)) feedRoundCard

/-- THE TIED CARD OF 'muleteerlaw8.IvalAll'. -/
def ivalAllCard : Claim7 := { stood := { row := ivalAllRow, standIns := [], harness := (true, "47d901178d53bbfba34a0ce376f8a4f54a9f8af2d4ea551c8480e587fa93452e"), looks := true }, kinds := [], alts := [], laidByText := true, laidKinds := [.data, .data, .data, .data, .sentinel, .sentinel, .pinned], laidTests := true, laidLooks := .later }
def IvalAllCardSaid : Prop := Claim7.holds Tryz.pinned (.plain (OpenSpec.ofChange ivalAllSpec)) ivalAllCard

/-- THE TIED CARD OF 'muleteerlaw8.IvalSteady'. -/
def ivalSteadyCard : Claim7 := { stood := { row := ivalSteadyRow, standIns := [], harness := (true, "47d901178d53bbfba34a0ce376f8a4f54a9f8af2d4ea551c8480e587fa93452e"), looks := true }, kinds := [], alts := [], laidByText := true, laidKinds := [.data, .data, .data, .data, .sentinel, .sentinel, .pinned], laidTests := true, laidLooks := .later }
def IvalSteadyCardSaid : Prop := Claim7.holds Tryz.pinned (.plain (OpenSpec.ofChange ivalSteadySpec)) ivalSteadyCard

/-- THE TIED CARD OF 'muleteerlaw8.IvalOne'. -/
def ivalOneCard : Claim7 := { stood := { row := ivalOneRow, standIns := [], harness := (true, "47d901178d53bbfba34a0ce376f8a4f54a9f8af2d4ea551c8480e587fa93452e"), looks := true }, kinds := [], alts := [], laidByText := true, laidKinds := [.data, .data, .data, .data, .sentinel, .sentinel, .pinned], laidTests := true, laidLooks := .later }
def IvalOneCardSaid : Prop := Claim7.holds Tryz.pinned (.plain (OpenSpec.ofChange ivalOneSpec)) ivalOneCard

/-- THE TIED CARD OF 'muleteerlaw8.RttAll'. -/
def rttAllCard : Claim7 := { stood := { row := rttAllRow, standIns := [], harness := (true, "47d901178d53bbfba34a0ce376f8a4f54a9f8af2d4ea551c8480e587fa93452e"), looks := true }, kinds := [], alts := [], laidByText := true, laidKinds := [.data, .data, .data, .data, .sentinel, .sentinel, .pinned], laidTests := true, laidLooks := .later }
def RttAllCardSaid : Prop := Claim7.holds Tryz.pinned (.plain (OpenSpec.ofChange rttAllSpec)) rttAllCard

/-- THE TIED CARD OF 'muleteerlaw8.RttBack'. -/
def rttBackCard : Claim7 := { stood := { row := rttBackRow, standIns := [], harness := (true, "47d901178d53bbfba34a0ce376f8a4f54a9f8af2d4ea551c8480e587fa93452e"), looks := true }, kinds := [], alts := [], laidByText := true, laidKinds := [.data, .data, .data, .data, .sentinel, .sentinel, .pinned], laidTests := true, laidLooks := .later }
def RttBackCardSaid : Prop := Claim7.holds Tryz.pinned (.plain (OpenSpec.ofChange rttBackSpec)) rttBackCard

/-- THE TIED CARD OF 'muleteerlaw8.TfrcLimited'. -/
def tfrcLimitedCard : Claim7 := { stood := { row := tfrcLimitedRow, standIns := [], harness := (true, "47d901178d53bbfba34a0ce376f8a4f54a9f8af2d4ea551c8480e587fa93452e"), looks := true }, kinds := [], alts := [], laidByText := true, laidKinds := [.data, .data, .data, .data, .sentinel, .sentinel, .pinned], laidTests := true, laidLooks := .later }
def TfrcLimitedCardSaid : Prop := Claim7.holds Tryz.pinned (.plain (OpenSpec.ofChange tfrcLimitedSpec)) tfrcLimitedCard

/-- THE SECOND FORM's CARD OF 'muleteerlaw8.RttSteady'. -/
def rttSteadyUptoCard : Claim7 := { stood := { row := rttSteadyUptoRow, standIns := [], harness := (true, "47d901178d53bbfba34a0ce376f8a4f54a9f8af2d4ea551c8480e587fa93452e"), looks := true }, kinds := [], alts := [], laidByText := true, laidKinds := [.data, .data, .data, .data, .sentinel, .sentinel, .pinned], laidTests := true, laidLooks := .later }
def RttSteadyUptoCardSaid : Prop := Claim7.holds Tryz.pinned (.plain (OpenSpec.upto rttSteadySpec)) rttSteadyUptoCard

/-- THE SECOND FORM's CARD OF 'muleteerlaw8.FeedNone'. -/
def feedNoneUptoCard : Claim7 := { stood := { row := feedNoneUptoRow, standIns := [], harness := (true, "47d901178d53bbfba34a0ce376f8a4f54a9f8af2d4ea551c8480e587fa93452e"), looks := true }, kinds := [], alts := [], laidByText := true, laidKinds := [.data, .data, .data, .data, .sentinel, .sentinel, .pinned], laidTests := true, laidLooks := .later }
def FeedNoneUptoCardSaid : Prop := Claim7.holds Tryz.pinned (.plain (OpenSpec.upto feedNoneSpec)) feedNoneUptoCard

/-- THE SECOND FORM's CARD OF 'muleteerlaw8.FeedHoles'. -/
def feedHolesUptoCard : Claim7 := { stood := { row := feedHolesUptoRow, standIns := [], harness := (true, "47d901178d53bbfba34a0ce376f8a4f54a9f8af2d4ea551c8480e587fa93452e"), looks := true }, kinds := [], alts := [], laidByText := true, laidKinds := [.data, .data, .data, .data, .sentinel, .sentinel, .pinned], laidTests := true, laidLooks := .later }
def FeedHolesUptoCardSaid : Prop := Claim7.holds Tryz.pinned (.plain (OpenSpec.upto feedHolesSpec)) feedHolesUptoCard

/-- THE SECOND FORM's CARD OF 'muleteerlaw8.SentFull'. -/
def sentFullUptoCard : Claim7 := { stood := { row := sentFullUptoRow, standIns := [], harness := (true, "47d901178d53bbfba34a0ce376f8a4f54a9f8af2d4ea551c8480e587fa93452e"), looks := true }, kinds := [], alts := [], laidByText := true, laidKinds := [.data, .data, .data, .data, .sentinel, .sentinel, .pinned], laidTests := true, laidLooks := .later }
def SentFullUptoCardSaid : Prop := Claim7.holds Tryz.pinned (.plain (OpenSpec.upto sentFullSpec)) sentFullUptoCard

/-- THE SECOND FORM's CARD OF 'muleteerlaw8.FeedRate'. -/
def feedRateUptoCard : Claim7 := { stood := { row := feedRateUptoRow, standIns := [], harness := (true, "47d901178d53bbfba34a0ce376f8a4f54a9f8af2d4ea551c8480e587fa93452e"), looks := true }, kinds := [], alts := [], laidByText := true, laidKinds := [.data, .data, .data, .data, .sentinel, .sentinel, .pinned], laidTests := true, laidLooks := .later }
def FeedRateUptoCardSaid : Prop := Claim7.holds Tryz.pinned (.plain (OpenSpec.upto feedRateSpec)) feedRateUptoCard

/-- THE SECOND FORM's CARD OF 'muleteerlaw8.FeedRound'. -/
def feedRoundUptoCard : Claim7 := { stood := { row := feedRoundUptoRow, standIns := [], harness := (true, "47d901178d53bbfba34a0ce376f8a4f54a9f8af2d4ea551c8480e587fa93452e"), looks := true }, kinds := [], alts := [], laidByText := true, laidKinds := [.data, .data, .data, .data, .sentinel, .sentinel, .pinned], laidTests := true, laidLooks := .later }
def FeedRoundUptoCardSaid : Prop := Claim7.holds Tryz.pinned (.plain (OpenSpec.upto feedRoundSpec)) feedRoundUptoCard

/-- THE SECOND FORM's CARD OF 'muleteerlaw8.IvalAll'. -/
def ivalAllUptoCard : Claim7 := { stood := { row := ivalAllUptoRow, standIns := [], harness := (true, "47d901178d53bbfba34a0ce376f8a4f54a9f8af2d4ea551c8480e587fa93452e"), looks := true }, kinds := [], alts := [], laidByText := true, laidKinds := [.data, .data, .data, .data, .sentinel, .sentinel, .pinned], laidTests := true, laidLooks := .later }
def IvalAllUptoCardSaid : Prop := Claim7.holds Tryz.pinned (.plain (OpenSpec.upto ivalAllSpec)) ivalAllUptoCard

/-- THE SECOND FORM's CARD OF 'muleteerlaw8.IvalSteady'. -/
def ivalSteadyUptoCard : Claim7 := { stood := { row := ivalSteadyUptoRow, standIns := [], harness := (true, "47d901178d53bbfba34a0ce376f8a4f54a9f8af2d4ea551c8480e587fa93452e"), looks := true }, kinds := [], alts := [], laidByText := true, laidKinds := [.data, .data, .data, .data, .sentinel, .sentinel, .pinned], laidTests := true, laidLooks := .later }
def IvalSteadyUptoCardSaid : Prop := Claim7.holds Tryz.pinned (.plain (OpenSpec.upto ivalSteadySpec)) ivalSteadyUptoCard

/-- THE SECOND FORM's CARD OF 'muleteerlaw8.IvalOne'. -/
def ivalOneUptoCard : Claim7 := { stood := { row := ivalOneUptoRow, standIns := [], harness := (true, "47d901178d53bbfba34a0ce376f8a4f54a9f8af2d4ea551c8480e587fa93452e"), looks := true }, kinds := [], alts := [], laidByText := true, laidKinds := [.data, .data, .data, .data, .sentinel, .sentinel, .pinned], laidTests := true, laidLooks := .later }
def IvalOneUptoCardSaid : Prop := Claim7.holds Tryz.pinned (.plain (OpenSpec.upto ivalOneSpec)) ivalOneUptoCard

/-- THE SECOND FORM's CARD OF 'muleteerlaw8.RttAll'. -/
def rttAllUptoCard : Claim7 := { stood := { row := rttAllUptoRow, standIns := [], harness := (true, "47d901178d53bbfba34a0ce376f8a4f54a9f8af2d4ea551c8480e587fa93452e"), looks := true }, kinds := [], alts := [], laidByText := true, laidKinds := [.data, .data, .data, .data, .sentinel, .sentinel, .pinned], laidTests := true, laidLooks := .later }
def RttAllUptoCardSaid : Prop := Claim7.holds Tryz.pinned (.plain (OpenSpec.upto rttAllSpec)) rttAllUptoCard

/-- THE SECOND FORM's CARD OF 'muleteerlaw8.RttBack'. -/
def rttBackUptoCard : Claim7 := { stood := { row := rttBackUptoRow, standIns := [], harness := (true, "47d901178d53bbfba34a0ce376f8a4f54a9f8af2d4ea551c8480e587fa93452e"), looks := true }, kinds := [], alts := [], laidByText := true, laidKinds := [.data, .data, .data, .data, .sentinel, .sentinel, .pinned], laidTests := true, laidLooks := .later }
def RttBackUptoCardSaid : Prop := Claim7.holds Tryz.pinned (.plain (OpenSpec.upto rttBackSpec)) rttBackUptoCard

/-- THE SECOND FORM's CARD OF 'muleteerlaw8.TfrcLimited'. -/
def tfrcLimitedUptoCard : Claim7 := { stood := { row := tfrcLimitedUptoRow, standIns := [], harness := (true, "47d901178d53bbfba34a0ce376f8a4f54a9f8af2d4ea551c8480e587fa93452e"), looks := true }, kinds := [], alts := [], laidByText := true, laidKinds := [.data, .data, .data, .data, .sentinel, .sentinel, .pinned], laidTests := true, laidLooks := .later }
def TfrcLimitedUptoCardSaid : Prop := Claim7.holds Tryz.pinned (.plain (OpenSpec.upto tfrcLimitedSpec)) tfrcLimitedUptoCard
end Rows
end Go.Proofs.YtbjpcbghchfifaaGreatDoor
