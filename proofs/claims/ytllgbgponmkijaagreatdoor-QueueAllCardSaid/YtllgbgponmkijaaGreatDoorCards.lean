/-
  DERIVED. GIVEN WITH THE SEED: THE CARDS: each row of YtllgbgponmkijaaGreatDoorRows.lean that lists a variable, with what it lists TIED to the program's text (the seventh form; the later family's looks); each row that meets fmt, with fmt's text TOLD by the authors' own Lean function (tested against real Go, not proved from fmt's source: count such statements apart). THE CARD IS WHAT COUNTS. Prove the row's statement (the work); the ties are given (YtllgbgponmkijaaGreatDoorTie.lean); close each card by the builder's one call (the guide's Derived/Test/ToyasCard.lean, 'card_holds'). Laid BY PROGRAM, IN A SANDBOX (cutbox-door.mjs). By AI agents, Wed Nov 11 2026. No macro, syntax, notation, axiom, sorry.
-/
import Derived.Test.YtllgbgponmkijaaGreatDoorRows
import GoSem.ClaimSeven
namespace Go.Proofs.YtllgbgponmkijaaGreatDoor
namespace Rows

/-- THE TIED CARD OF 'muleteerlaw18.PaceFall'. -/
def paceFallCard : Claim7 := { stood := { row := paceFallRow, standIns := [], harness := (true, "90fbb1153244463d3457da30e1b9005cc4ca409d2597b047784a0eb7c0f6e91a"), looks := true }, kinds := [], alts := [], laidByText := true, laidKinds := [.data, .data, .data, .data, .sentinel, .sentinel, .pinned], laidTests := true, laidLooks := .later }
def PaceFallCardSaid : Prop := Claim7.holds Tryz.pinned (.plain (OpenSpec.ofChange paceFallSpec)) paceFallCard

/-- THE TIED CARD OF 'muleteerlaw18.PaceFull'. -/
def paceFullCard : Claim7 := { stood := { row := paceFullRow, standIns := [], harness := (true, "90fbb1153244463d3457da30e1b9005cc4ca409d2597b047784a0eb7c0f6e91a"), looks := true }, kinds := [], alts := [], laidByText := true, laidKinds := [.data, .data, .data, .data, .sentinel, .sentinel, .pinned], laidTests := true, laidLooks := .later }
def PaceFullCardSaid : Prop := Claim7.holds Tryz.pinned (.plain (OpenSpec.ofChange paceFullSpec)) paceFullCard

/-- THE TIED CARD OF 'muleteerlaw18.PaceWhen'. -/
def paceWhenCard : Claim7 := { stood := { row := paceWhenRow, standIns := [], harness := (true, "90fbb1153244463d3457da30e1b9005cc4ca409d2597b047784a0eb7c0f6e91a"), looks := true }, kinds := [], alts := [], laidByText := true, laidKinds := [.data, .data, .data, .data, .sentinel, .sentinel, .pinned], laidTests := true, laidLooks := .later }
def PaceWhenCardSaid : Prop := Claim7.holds Tryz.pinned (.plain (OpenSpec.ofChange paceWhenSpec)) paceWhenCard

/-- THE TIED CARD OF 'muleteerlaw18.PaceAll'. -/
def paceAllCard : Claim7 := { stood := { row := paceAllRow, standIns := [], harness := (true, "90fbb1153244463d3457da30e1b9005cc4ca409d2597b047784a0eb7c0f6e91a"), looks := true }, kinds := [], alts := [], laidByText := true, laidKinds := [.data, .data, .data, .data, .sentinel, .sentinel, .pinned], laidTests := true, laidLooks := .later }
def PaceAllCardSaid : Prop := Claim7.holds Tryz.pinned (.plain (OpenSpec.ofChange paceAllSpec)) paceAllCard

/-- THE TIED CARD OF 'muleteerlaw18.PaceBound'. -/
def paceBoundCard : Claim7 := { stood := { row := paceBoundRow, standIns := [], harness := (true, "90fbb1153244463d3457da30e1b9005cc4ca409d2597b047784a0eb7c0f6e91a"), looks := true }, kinds := [], alts := [], laidByText := true, laidKinds := [.data, .data, .data, .data, .sentinel, .sentinel, .pinned], laidTests := true, laidLooks := .later }
def PaceBoundCardSaid : Prop := Claim7.holds Tryz.pinned (.plain (OpenSpec.ofChange paceBoundSpec)) paceBoundCard

/-- THE TIED CARD OF 'muleteerlaw18.ValidStates'. -/
def validStatesCard : Claim7 := { stood := { row := validStatesRow, standIns := [], harness := (true, "90fbb1153244463d3457da30e1b9005cc4ca409d2597b047784a0eb7c0f6e91a"), looks := true }, kinds := [], alts := [], laidByText := true, laidKinds := [.data, .data, .data, .data, .sentinel, .sentinel, .pinned], laidTests := true, laidLooks := .later }
def ValidStatesCardSaid : Prop := Claim7.holds Tryz.pinned (.plain (OpenSpec.ofChange validStatesSpec)) validStatesCard

/-- THE TIED CARD OF 'muleteerlaw18.ValidWindow'. -/
def validWindowCard : Claim7 := { stood := { row := validWindowRow, standIns := [], harness := (true, "90fbb1153244463d3457da30e1b9005cc4ca409d2597b047784a0eb7c0f6e91a"), looks := true }, kinds := [], alts := [], laidByText := true, laidKinds := [.data, .data, .data, .data, .sentinel, .sentinel, .pinned], laidTests := true, laidLooks := .later }
def ValidWindowCardSaid : Prop := Claim7.holds Tryz.pinned (.plain (OpenSpec.ofChange validWindowSpec)) validWindowCard

/-- THE TIED CARD OF 'muleteerlaw18.ValidNext'. -/
def validNextCard : Claim7 := { stood := { row := validNextRow, standIns := [], harness := (true, "90fbb1153244463d3457da30e1b9005cc4ca409d2597b047784a0eb7c0f6e91a"), looks := true }, kinds := [], alts := [], laidByText := true, laidKinds := [.data, .data, .data, .data, .sentinel, .sentinel, .pinned], laidTests := true, laidLooks := .later }
def ValidNextCardSaid : Prop := Claim7.holds Tryz.pinned (.plain (OpenSpec.ofChange validNextSpec)) validNextCard

/-- THE TIED CARD OF 'muleteerlaw18.ValidShort'. -/
def validShortCard : Claim7 := { stood := { row := validShortRow, standIns := [], harness := (true, "90fbb1153244463d3457da30e1b9005cc4ca409d2597b047784a0eb7c0f6e91a"), looks := true }, kinds := [], alts := [], laidByText := true, laidKinds := [.data, .data, .data, .data, .sentinel, .sentinel, .pinned], laidTests := true, laidLooks := .later }
def ValidShortCardSaid : Prop := Claim7.holds Tryz.pinned (.plain (OpenSpec.ofChange validShortSpec)) validShortCard

/-- THE TIED CARD OF 'muleteerlaw18.CtrlKinds'. -/
def ctrlKindsCard : Claim7 := { stood := { row := ctrlKindsRow, standIns := [], harness := (true, "90fbb1153244463d3457da30e1b9005cc4ca409d2597b047784a0eb7c0f6e91a"), looks := true }, kinds := [], alts := [], laidByText := true, laidKinds := [.data, .data, .data, .data, .sentinel, .sentinel, .pinned], laidTests := true, laidLooks := .later }
def CtrlKindsCardSaid : Prop := Claim7.holds Tryz.pinned (.plain (OpenSpec.ofChange ctrlKindsSpec)) ctrlKindsCard

/-- THE TIED CARD OF 'muleteerlaw18.QueueAll'. -/
def queueAllCard : Claim7 := { stood := { row := queueAllRow, standIns := [], harness := (true, "90fbb1153244463d3457da30e1b9005cc4ca409d2597b047784a0eb7c0f6e91a"), looks := true }, kinds := [], alts := [], laidByText := true, laidKinds := [.data, .data, .data, .data, .sentinel, .sentinel, .pinned], laidTests := true, laidLooks := .later }
def QueueAllCardSaid : Prop := Claim7.holds Tryz.pinned (.plain (OpenSpec.ofChange queueAllSpec)) queueAllCard

/-- THE TIED CARD OF 'muleteerlaw18.CtrlNone'. -/
def ctrlNoneCard : Claim7 := { stood := { row := ctrlNoneRow, standIns := [], harness := (true, "90fbb1153244463d3457da30e1b9005cc4ca409d2597b047784a0eb7c0f6e91a"), looks := true }, kinds := [], alts := [], laidByText := true, laidKinds := [.data, .data, .data, .data, .sentinel, .sentinel, .pinned], laidTests := true, laidLooks := .later }
def CtrlNoneCardSaid : Prop := Claim7.holds Tryz.pinned (.plain (OpenSpec.ofChange ctrlNoneSpec)) ctrlNoneCard

/-- THE SECOND FORM's CARD OF 'muleteerlaw18.PaceFall'. -/
def paceFallUptoCard : Claim7 := { stood := { row := paceFallUptoRow, standIns := [], harness := (true, "90fbb1153244463d3457da30e1b9005cc4ca409d2597b047784a0eb7c0f6e91a"), looks := true }, kinds := [], alts := [], laidByText := true, laidKinds := [.data, .data, .data, .data, .sentinel, .sentinel, .pinned], laidTests := true, laidLooks := .later }
def PaceFallUptoCardSaid : Prop := Claim7.holds Tryz.pinned (.plain (OpenSpec.upto paceFallSpec)) paceFallUptoCard

/-- THE SECOND FORM's CARD OF 'muleteerlaw18.PaceFull'. -/
def paceFullUptoCard : Claim7 := { stood := { row := paceFullUptoRow, standIns := [], harness := (true, "90fbb1153244463d3457da30e1b9005cc4ca409d2597b047784a0eb7c0f6e91a"), looks := true }, kinds := [], alts := [], laidByText := true, laidKinds := [.data, .data, .data, .data, .sentinel, .sentinel, .pinned], laidTests := true, laidLooks := .later }
def PaceFullUptoCardSaid : Prop := Claim7.holds Tryz.pinned (.plain (OpenSpec.upto paceFullSpec)) paceFullUptoCard

/-- THE SECOND FORM's CARD OF 'muleteerlaw18.PaceWhen'. -/
def paceWhenUptoCard : Claim7 := { stood := { row := paceWhenUptoRow, standIns := [], harness := (true, "90fbb1153244463d3457da30e1b9005cc4ca409d2597b047784a0eb7c0f6e91a"), looks := true }, kinds := [], alts := [], laidByText := true, laidKinds := [.data, .data, .data, .data, .sentinel, .sentinel, .pinned], laidTests := true, laidLooks := .later }
def PaceWhenUptoCardSaid : Prop := Claim7.holds Tryz.pinned (.plain (OpenSpec.upto paceWhenSpec)) paceWhenUptoCard

/-- THE SECOND FORM's CARD OF 'muleteerlaw18.PaceAll'. -/
def paceAllUptoCard : Claim7 := { stood := { row := paceAllUptoRow, standIns := [], harness := (true, "90fbb1153244463d3457da30e1b9005cc4ca409d2597b047784a0eb7c0f6e91a"), looks := true }, kinds := [], alts := [], laidByText := true, laidKinds := [.data, .data, .data, .data, .sentinel, .sentinel, .pinned], laidTests := true, laidLooks := .later }
def PaceAllUptoCardSaid : Prop := Claim7.holds Tryz.pinned (.plain (OpenSpec.upto paceAllSpec)) paceAllUptoCard

/-- THE SECOND FORM's CARD OF 'muleteerlaw18.PaceBound'. -/
def paceBoundUptoCard : Claim7 := { stood := { row := paceBoundUptoRow, standIns := [], harness := (true, "90fbb1153244463d3457da30e1b9005cc4ca409d2597b047784a0eb7c0f6e91a"), looks := true }, kinds := [], alts := [], laidByText := true, laidKinds := [.data, .data, .data, .data, .sentinel, .sentinel, .pinned], laidTests := true, laidLooks := .later }
def PaceBoundUptoCardSaid : Prop := Claim7.holds Tryz.pinned (.plain (OpenSpec.upto paceBoundSpec)) paceBoundUptoCard

/-- THE SECOND FORM's CARD OF 'muleteerlaw18.ValidStates'. -/
def validStatesUptoCard : Claim7 := { stood := { row := validStatesUptoRow, standIns := [], harness := (true, "90fbb1153244463d3457da30e1b9005cc4ca409d2597b047784a0eb7c0f6e91a"), looks := true }, kinds := [], alts := [], laidByText := true, laidKinds := [.data, .data, .data, .data, .sentinel, .sentinel, .pinned], laidTests := true, laidLooks := .later }
def ValidStatesUptoCardSaid : Prop := Claim7.holds Tryz.pinned (.plain (OpenSpec.upto validStatesSpec)) validStatesUptoCard

/-- THE SECOND FORM's CARD OF 'muleteerlaw18.ValidWindow'. -/
def validWindowUptoCard : Claim7 := { stood := { row := validWindowUptoRow, standIns := [], harness := (true, "90fbb1153244463d3457da30e1b9005cc4ca409d2597b047784a0eb7c0f6e91a"), looks := true }, kinds := [], alts := [], laidByText := true, laidKinds := [.data, .data, .data, .data, .sentinel, .sentinel, .pinned], laidTests := true, laidLooks := .later }
def ValidWindowUptoCardSaid : Prop := Claim7.holds Tryz.pinned (.plain (OpenSpec.upto validWindowSpec)) validWindowUptoCard

/-- THE SECOND FORM's CARD OF 'muleteerlaw18.ValidNext'. -/
def validNextUptoCard : Claim7 := { stood := { row := validNextUptoRow, standIns := [], harness := (true, "90fbb1153244463d3457da30e1b9005cc4ca409d2597b047784a0eb7c0f6e91a"), looks := true }, kinds := [], alts := [], laidByText := true, laidKinds := [.data, .data, .data, .data, .sentinel, .sentinel, .pinned], laidTests := true, laidLooks := .later }
def ValidNextUptoCardSaid : Prop := Claim7.holds Tryz.pinned (.plain (OpenSpec.upto validNextSpec)) validNextUptoCard

/-- THE SECOND FORM's CARD OF 'muleteerlaw18.ValidShort'. -/
def validShortUptoCard : Claim7 := { stood := { row := validShortUptoRow, standIns := [], harness := (true, "90fbb1153244463d3457da30e1b9005cc4ca409d2597b047784a0eb7c0f6e91a"), looks := true }, kinds := [], alts := [], laidByText := true, laidKinds := [.data, .data, .data, .data, .sentinel, .sentinel, .pinned], laidTests := true, laidLooks := .later }
def ValidShortUptoCardSaid : Prop := Claim7.holds Tryz.pinned (.plain (OpenSpec.upto validShortSpec)) validShortUptoCard

/-- THE SECOND FORM's CARD OF 'muleteerlaw18.CtrlKinds'. -/
def ctrlKindsUptoCard : Claim7 := { stood := { row := ctrlKindsUptoRow, standIns := [], harness := (true, "90fbb1153244463d3457da30e1b9005cc4ca409d2597b047784a0eb7c0f6e91a"), looks := true }, kinds := [], alts := [], laidByText := true, laidKinds := [.data, .data, .data, .data, .sentinel, .sentinel, .pinned], laidTests := true, laidLooks := .later }
def CtrlKindsUptoCardSaid : Prop := Claim7.holds Tryz.pinned (.plain (OpenSpec.upto ctrlKindsSpec)) ctrlKindsUptoCard

/-- THE SECOND FORM's CARD OF 'muleteerlaw18.QueueAll'. -/
def queueAllUptoCard : Claim7 := { stood := { row := queueAllUptoRow, standIns := [], harness := (true, "90fbb1153244463d3457da30e1b9005cc4ca409d2597b047784a0eb7c0f6e91a"), looks := true }, kinds := [], alts := [], laidByText := true, laidKinds := [.data, .data, .data, .data, .sentinel, .sentinel, .pinned], laidTests := true, laidLooks := .later }
def QueueAllUptoCardSaid : Prop := Claim7.holds Tryz.pinned (.plain (OpenSpec.upto queueAllSpec)) queueAllUptoCard

/-- THE SECOND FORM's CARD OF 'muleteerlaw18.CtrlNone'. -/
def ctrlNoneUptoCard : Claim7 := { stood := { row := ctrlNoneUptoRow, standIns := [], harness := (true, "90fbb1153244463d3457da30e1b9005cc4ca409d2597b047784a0eb7c0f6e91a"), looks := true }, kinds := [], alts := [], laidByText := true, laidKinds := [.data, .data, .data, .data, .sentinel, .sentinel, .pinned], laidTests := true, laidLooks := .later }
def CtrlNoneUptoCardSaid : Prop := Claim7.holds Tryz.pinned (.plain (OpenSpec.upto ctrlNoneSpec)) ctrlNoneUptoCard
end Rows
end Go.Proofs.YtllgbgponmkijaaGreatDoor
