/-
  DERIVED. GIVEN WITH THE SEED: THE CARDS: each row of YtdjnfdcoilgegaaGreatDoorRows.lean that lists a variable, with what it lists TIED to the program's text (the seventh form; the later family's looks); each row that meets fmt, with fmt's text TOLD by the authors' own Lean function (tested against real Go, not proved from fmt's source: count such statements apart). THE CARD IS WHAT COUNTS. Prove the row's statement (the work); the ties are given (YtdjnfdcoilgegaaGreatDoorTie.lean); close each card by the builder's one call (the guide's Derived/Test/ToyasCard.lean, 'card_holds'). Laid BY PROGRAM, IN A SANDBOX (cutbox-door.mjs). By AI agents, Wed Nov 11 2026. No macro, syntax, notation, axiom, sorry.
-/
import Derived.Test.YtdjnfdcoilgegaaGreatDoorRows
import GoSem.ClaimSeven
namespace Go.Proofs.YtdjnfdcoilgegaaGreatDoor
namespace Rows

/-- THE TIED CARD OF 'muleteerlaw18.CtrlFire'. -/
def ctrlFireCard : Claim7 := { stood := { row := ctrlFireRow, standIns := [], harness := (true, "d38e404a0587a18eb48a60ba5a9582ae010af0c9c2205b1f6ec127b160486736"), looks := true }, kinds := [], alts := [], laidByText := true, laidKinds := [.data, .data, .data, .data, .sentinel, .sentinel, .pinned], laidTests := true, laidLooks := .later }
def CtrlFireCardSaid : Prop := Claim7.holds Tryz.pinned (.plain (OpenSpec.ofChange ctrlFireSpec)) ctrlFireCard

/-- THE TIED CARD OF 'muleteerlaw18.NegoAsk'. -/
def negoAskCard : Claim7 := { stood := { row := negoAskRow, standIns := [], harness := (true, "d38e404a0587a18eb48a60ba5a9582ae010af0c9c2205b1f6ec127b160486736"), looks := true }, kinds := [], alts := [], laidByText := true, laidKinds := [.data, .data, .data, .data, .sentinel, .sentinel, .pinned], laidTests := true, laidLooks := .later }
def NegoAskCardSaid : Prop := Claim7.holds Tryz.pinned (.plain (OpenSpec.ofChange negoAskSpec)) negoAskCard

/-- THE TIED CARD OF 'muleteerlaw18.NegoBad'. -/
def negoBadCard : Claim7 := { stood := { row := negoBadRow, standIns := [], harness := (true, "d38e404a0587a18eb48a60ba5a9582ae010af0c9c2205b1f6ec127b160486736"), looks := true }, kinds := [], alts := [], laidByText := true, laidKinds := [.data, .data, .data, .data, .sentinel, .sentinel, .pinned], laidTests := true, laidLooks := .later }
def NegoBadCardSaid : Prop := Claim7.holds Tryz.pinned (.plain (OpenSpec.ofChange negoBadSpec)) negoBadCard

/-- THE TIED CARD OF 'muleteerlaw18.NegoMust'. -/
def negoMustCard : Claim7 := { stood := { row := negoMustRow, standIns := [], harness := (true, "d38e404a0587a18eb48a60ba5a9582ae010af0c9c2205b1f6ec127b160486736"), looks := true }, kinds := [], alts := [], laidByText := true, laidKinds := [.data, .data, .data, .data, .sentinel, .sentinel, .pinned], laidTests := true, laidLooks := .later }
def NegoMustCardSaid : Prop := Claim7.holds Tryz.pinned (.plain (OpenSpec.ofChange negoMustSpec)) negoMustCard

/-- THE TIED CARD OF 'muleteerlaw18.NegoAgain'. -/
def negoAgainCard : Claim7 := { stood := { row := negoAgainRow, standIns := [], harness := (true, "d38e404a0587a18eb48a60ba5a9582ae010af0c9c2205b1f6ec127b160486736"), looks := true }, kinds := [], alts := [], laidByText := true, laidKinds := [.data, .data, .data, .data, .sentinel, .sentinel, .pinned], laidTests := true, laidLooks := .later }
def NegoAgainCardSaid : Prop := Claim7.holds Tryz.pinned (.plain (OpenSpec.ofChange negoAgainSpec)) negoAgainCard

/-- THE TIED CARD OF 'muleteerlaw18.NegoTwo'. -/
def negoTwoCard : Claim7 := { stood := { row := negoTwoRow, standIns := [], harness := (true, "d38e404a0587a18eb48a60ba5a9582ae010af0c9c2205b1f6ec127b160486736"), looks := true }, kinds := [], alts := [], laidByText := true, laidKinds := [.data, .data, .data, .data, .sentinel, .sentinel, .pinned], laidTests := true, laidLooks := .later }
def NegoTwoCardSaid : Prop := Claim7.holds Tryz.pinned (.plain (OpenSpec.ofChange negoTwoSpec)) negoTwoCard

/-- THE SECOND FORM's CARD OF 'muleteerlaw18.CtrlFire'. -/
def ctrlFireUptoCard : Claim7 := { stood := { row := ctrlFireUptoRow, standIns := [], harness := (true, "d38e404a0587a18eb48a60ba5a9582ae010af0c9c2205b1f6ec127b160486736"), looks := true }, kinds := [], alts := [], laidByText := true, laidKinds := [.data, .data, .data, .data, .sentinel, .sentinel, .pinned], laidTests := true, laidLooks := .later }
def CtrlFireUptoCardSaid : Prop := Claim7.holds Tryz.pinned (.plain (OpenSpec.upto ctrlFireSpec)) ctrlFireUptoCard

/-- THE SECOND FORM's CARD OF 'muleteerlaw18.NegoAsk'. -/
def negoAskUptoCard : Claim7 := { stood := { row := negoAskUptoRow, standIns := [], harness := (true, "d38e404a0587a18eb48a60ba5a9582ae010af0c9c2205b1f6ec127b160486736"), looks := true }, kinds := [], alts := [], laidByText := true, laidKinds := [.data, .data, .data, .data, .sentinel, .sentinel, .pinned], laidTests := true, laidLooks := .later }
def NegoAskUptoCardSaid : Prop := Claim7.holds Tryz.pinned (.plain (OpenSpec.upto negoAskSpec)) negoAskUptoCard

/-- THE SECOND FORM's CARD OF 'muleteerlaw18.NegoBad'. -/
def negoBadUptoCard : Claim7 := { stood := { row := negoBadUptoRow, standIns := [], harness := (true, "d38e404a0587a18eb48a60ba5a9582ae010af0c9c2205b1f6ec127b160486736"), looks := true }, kinds := [], alts := [], laidByText := true, laidKinds := [.data, .data, .data, .data, .sentinel, .sentinel, .pinned], laidTests := true, laidLooks := .later }
def NegoBadUptoCardSaid : Prop := Claim7.holds Tryz.pinned (.plain (OpenSpec.upto negoBadSpec)) negoBadUptoCard

/-- THE SECOND FORM's CARD OF 'muleteerlaw18.NegoMust'. -/
def negoMustUptoCard : Claim7 := { stood := { row := negoMustUptoRow, standIns := [], harness := (true, "d38e404a0587a18eb48a60ba5a9582ae010af0c9c2205b1f6ec127b160486736"), looks := true }, kinds := [], alts := [], laidByText := true, laidKinds := [.data, .data, .data, .data, .sentinel, .sentinel, .pinned], laidTests := true, laidLooks := .later }
def NegoMustUptoCardSaid : Prop := Claim7.holds Tryz.pinned (.plain (OpenSpec.upto negoMustSpec)) negoMustUptoCard

/-- THE SECOND FORM's CARD OF 'muleteerlaw18.NegoAgain'. -/
def negoAgainUptoCard : Claim7 := { stood := { row := negoAgainUptoRow, standIns := [], harness := (true, "d38e404a0587a18eb48a60ba5a9582ae010af0c9c2205b1f6ec127b160486736"), looks := true }, kinds := [], alts := [], laidByText := true, laidKinds := [.data, .data, .data, .data, .sentinel, .sentinel, .pinned], laidTests := true, laidLooks := .later }
def NegoAgainUptoCardSaid : Prop := Claim7.holds Tryz.pinned (.plain (OpenSpec.upto negoAgainSpec)) negoAgainUptoCard

/-- THE SECOND FORM's CARD OF 'muleteerlaw18.NegoTwo'. -/
def negoTwoUptoCard : Claim7 := { stood := { row := negoTwoUptoRow, standIns := [], harness := (true, "d38e404a0587a18eb48a60ba5a9582ae010af0c9c2205b1f6ec127b160486736"), looks := true }, kinds := [], alts := [], laidByText := true, laidKinds := [.data, .data, .data, .data, .sentinel, .sentinel, .pinned], laidTests := true, laidLooks := .later }
def NegoTwoUptoCardSaid : Prop := Claim7.holds Tryz.pinned (.plain (OpenSpec.upto negoTwoSpec)) negoTwoUptoCard
end Rows
end Go.Proofs.YtdjnfdcoilgegaaGreatDoor
