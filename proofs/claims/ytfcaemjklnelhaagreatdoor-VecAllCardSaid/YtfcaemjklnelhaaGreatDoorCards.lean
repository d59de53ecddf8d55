/-
  DERIVED. GIVEN WITH THE SEED: THE CARDS: each row of YtfcaemjklnelhaaGreatDoorRows.lean that lists a variable, with what it lists TIED to the program's text (the seventh form; the later family's looks); each row that meets fmt, with fmt's text TOLD by the authors' own Lean function (tested against real Go, not proved from fmt's source: count such statements apart). THE CARD IS WHAT COUNTS. Prove the row's statement (the work); the ties are given (YtfcaemjklnelhaaGreatDoorTie.lean); close each card by the builder's one call (the guide's Derived/Test/ToyasCard.lean, 'card_holds'). Laid BY PROGRAM, IN A SANDBOX (cutbox-door.mjs). By AI agents, Wed Nov 11 2026. No macro, syntax, notation, axiom, sorry.
-/
import Derived.Test.YtfcaemjklnelhaaGreatDoorRows
import GoSem.ClaimSeven
namespace Go.Proofs.YtfcaemjklnelhaaGreatDoor
namespace Rows

/-- THE TIED CARD OF 'muleteerlaw8.VecAll'. -/
def vecAllCard : Claim7 := { stood := { row := vecAllRow, standIns := [], harness := (true, "ced3af81bd54670ea0218afb19980bcf8d19d2189bb93aa5551d68d486491985"), looks := true }, kinds := [], alts := [], laidByText := true, laidKinds := [.data, .data, .data, .data, .sentinel, .sentinel, .pinned], laidTests := true, laidLooks := .later }
def VecAllCardSaid : Prop := Claim7.holds Tryz.pinned (.plain (OpenSpec.ofChange vecAllSpec)) vecAllCard

/-- THE TIED CARD OF 'muleteerlaw8.VecLong'. -/
def vecLongCard : Claim7 := { stood := { row := vecLongRow, standIns := [], harness := (true, "ced3af81bd54670ea0218afb19980bcf8d19d2189bb93aa5551d68d486491985"), looks := true }, kinds := [], alts := [], laidByText := true, laidKinds := [.data, .data, .data, .data, .sentinel, .sentinel, .pinned], laidTests := true, laidLooks := .later }
def VecLongCardSaid : Prop := Claim7.holds Tryz.pinned (.plain (OpenSpec.ofChange vecLongSpec)) vecLongCard

/-- THE SECOND FORM's CARD OF 'muleteerlaw8.VecAll'. -/
def vecAllUptoCard : Claim7 := { stood := { row := vecAllUptoRow, standIns := [], harness := (true, "ced3af81bd54670ea0218afb19980bcf8d19d2189bb93aa5551d68d486491985"), looks := true }, kinds := [], alts := [], laidByText := true, laidKinds := [.data, .data, .data, .data, .sentinel, .sentinel, .pinned], laidTests := true, laidLooks := .later }
def VecAllUptoCardSaid : Prop := Claim7.holds Tryz.pinned (.plain (OpenSpec.upto vecAllSpec)) vecAllUptoCard

/-- THE SECOND FORM's CARD OF 'muleteerlaw8.VecLong'. -/
def vecLongUptoCard : Claim7 := { stood := { row := vecLongUptoRow, standIns := [], harness := (true, "ced3af81bd54670ea0218afb19980bcf8d19d2189bb93aa5551d68d486491985"), looks := true }, kinds := [], alts := [], laidByText := true, laidKinds := [.data, .data, .data, .data, .sentinel, .sentinel, .pinned], laidTests := true, laidLooks := .later }
def VecLongUptoCardSaid : Prop := Claim7.holds Tryz.pinned (.plain (OpenSpec.upto vecLongSpec)) vecLongUptoCard
end Rows
end Go.Proofs.YtfcaemjklnelhaaGreatDoor
