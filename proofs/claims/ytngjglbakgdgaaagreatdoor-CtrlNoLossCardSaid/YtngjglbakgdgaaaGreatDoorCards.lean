/-
  DERIVED. GIVEN WITH THE SEED: THE CARDS: each row of YtngjglbakgdgaaaGreatDoorRows.lean that lists a variable, with what it lists TIED to the program's text (the seventh form; the later family's looks); each row that meets fmt, with fmt's text TOLD by the authors' own Lean function (tested against real Go, not proved from fmt's source: count such statements apart). THE CARD IS WHAT COUNTS. Prove the row's statement (the work); the ties are given (YtngjglbakgdgaaaGreatDoorTie.lean); close each card by the builder's one call (the guide's Derived/Test/ToyasCard.lean, 'card_holds'). Laid BY PROGRAM, IN A SANDBOX (cutbox-door.mjs). By AI agents, Wed Nov 11 2026. No macro, syntax, notation, axiom, sorry.
-/
import Derived.Test.YtngjglbakgdgaaaGreatDoorRows
import GoSem.ClaimSeven
namespace Go.Proofs.YtngjglbakgdgaaaGreatDoor
namespace Rows

/-- THE TIED CARD OF 'muleteerlaw18.FeatChoose'. -/
def featChooseCard : Claim7 := { stood := { row := featChooseRow, standIns := [], harness := (true, "476433af179e8af350de63a8e7896a51e6e67c9a3dd809cdc292fb450880ecd1"), looks := true }, kinds := [], alts := [], laidByText := true, laidKinds := [.data, .data, .data, .data, .sentinel, .sentinel, .pinned], laidTests := true, laidLooks := .later }
def FeatChooseCardSaid : Prop := Claim7.holds Tryz.pinned (.plain (OpenSpec.ofChange featChooseSpec)) featChooseCard

/-- THE TIED CARD OF 'muleteerlaw18.CtrlWait'. -/
def ctrlWaitCard : Claim7 := { stood := { row := ctrlWaitRow, standIns := [], harness := (true, "476433af179e8af350de63a8e7896a51e6e67c9a3dd809cdc292fb450880ecd1"), looks := true }, kinds := [], alts := [], laidByText := true, laidKinds := [.data, .data, .data, .data, .sentinel, .sentinel, .pinned], laidTests := true, laidLooks := .later }
def CtrlWaitCardSaid : Prop := Claim7.holds Tryz.pinned (.plain (OpenSpec.ofChange ctrlWaitSpec)) ctrlWaitCard

/-- THE TIED CARD OF 'muleteerlaw18.CtrlHear'. -/
def ctrlHearCard : Claim7 := { stood := { row := ctrlHearRow, standIns := [], harness := (true, "476433af179e8af350de63a8e7896a51e6e67c9a3dd809cdc292fb450880ecd1"), looks := true }, kinds := [], alts := [], laidByText := true, laidKinds := [.data, .data, .data, .data, .sentinel, .sentinel, .pinned], laidTests := true, laidLooks := .later }
def CtrlHearCardSaid : Prop := Claim7.holds Tryz.pinned (.plain (OpenSpec.ofChange ctrlHearSpec)) ctrlHearCard

/-- THE TIED CARD OF 'muleteerlaw18.CtrlFire'. -/
def ctrlFireCard : Claim7 := { stood := { row := ctrlFireRow, standIns := [], harness := (true, "476433af179e8af350de63a8e7896a51e6e67c9a3dd809cdc292fb450880ecd1"), looks := true }, kinds := [], alts := [], laidByText := true, laidKinds := [.data, .data, .data, .data, .sentinel, .sentinel, .pinned], laidTests := true, laidLooks := .later }
def CtrlFireCardSaid : Prop := Claim7.holds Tryz.pinned (.plain (OpenSpec.ofChange ctrlFireSpec)) ctrlFireCard

/-- THE TIED CARD OF 'muleteerlaw18.CtrlNoLoss'. -/
def ctrlNoLossCard : Claim7 := { stood := { row := ctrlNoLossRow, standIns := [], harness := (true, "476433af179e8af350de63a8e7896a51e6e67c9a3dd809cdc292fb450880ecd1"), looks := true }, kinds := [], alts := [], laidByText := true, laidKinds := [.data, .data, .data, .data, .sentinel, .sentinel, .pinned], laidTests := true, laidLooks := .later }
def CtrlNoLossCardSaid : Prop := Claim7.holds Tryz.pinned (.plain (OpenSpec.ofChange ctrlNoLossSpec)) ctrlNoLossCard

/-- THE TIED CARD OF 'muleteerlaw18.NegoAsk'. -/
def negoAskCard : Claim7 := { stood := { row := negoAskRow, standIns := [], harness := (true, "476433af179e8af350de63a8e7896a51e6e67c9a3dd809cdc292fb450880ecd1"), looks := true }, kinds := [], alts := [], laidByText := true, laidKinds := [.data, .data, .data, .data, .sentinel, .sentinel, .pinned], laidTests := true, laidLooks := .later }
def NegoAskCardSaid : Prop := Claim7.holds Tryz.pinned (.plain (OpenSpec.ofChange negoAskSpec)) negoAskCard

/-- THE TIED CARD OF 'muleteerlaw18.NegoBad'. -/
def negoBadCard : Claim7 := { stood := { row := negoBadRow, standIns := [], harness := (true, "476433af179e8af350de63a8e7896a51e6e67c9a3dd809cdc292fb450880ecd1"), looks := true }, kinds := [], alts := [], laidByText := true, laidKinds := [.data, .data, .data, .data, .sentinel, .sentinel, .pinned], laidTests := true, laidLooks := .later }
def NegoBadCardSaid : Prop := Claim7.holds Tryz.pinned (.plain (OpenSpec.ofChange negoBadSpec)) negoBadCard

/-- THE TIED CARD OF 'muleteerlaw18.NegoMust'. -/
def negoMustCard : Claim7 := { stood := { row := negoMustRow, standIns := [], harness := (true, "476433af179e8af350de63a8e7896a51e6e67c9a3dd809cdc292fb450880ecd1"), looks := true }, kinds := [], alts := [], laidByText := true, laidKinds := [.data, .data, .data, .data, .sentinel, .sentinel, .pinned], laidTests := true, laidLooks := .later }
def NegoMustCardSaid : Prop := Claim7.holds Tryz.pinned (.plain (OpenSpec.ofChange negoMustSpec)) negoMustCard

/-- THE TIED CARD OF 'muleteerlaw18.NegoAgain'. -/
def negoAgainCard : Claim7 := { stood := { row := negoAgainRow, standIns := [], harness := (true, "476433af179e8af350de63a8e7896a51e6e67c9a3dd809cdc292fb450880ecd1"), looks := true }, kinds := [], alts := [], laidByText := true, laidKinds := [.data, .data, .data, .data, .sentinel, .sentinel, .pinned], laidTests := true, laidLooks := .later }
def NegoAgainCardSaid : Prop := Claim7.holds Tryz.pinned (.plain (OpenSpec.ofChange negoAgainSpec)) negoAgainCard

/-- THE TIED CARD OF 'muleteerlaw18.NegoAll'. -/
def negoAllCard : Claim7 := { stood := { row := negoAllRow, standIns := [], harness := (true, "476433af179e8af350de63a8e7896a51e6e67c9a3dd809cdc292fb450880ecd1"), looks := true }, kinds := [], alts := [], laidByText := true, laidKinds := [.data, .data, .data, .data, .sentinel, .sentinel, .pinned], laidTests := true, laidLooks := .later }
def NegoAllCardSaid : Prop := Claim7.holds Tryz.pinned (.plain (OpenSpec.ofChange negoAllSpec)) negoAllCard

/-- THE TIED CARD OF 'muleteerlaw18.NegoTwo'. -/
def negoTwoCard : Claim7 := { stood := { row := negoTwoRow, standIns := [], harness := (true, "476433af179e8af350de63a8e7896a51e6e67c9a3dd809cdc292fb450880ecd1"), looks := true }, kinds := [], alts := [], laidByText := true, laidKinds := [.data, .data, .data, .data, .sentinel, .sentinel, .pinned], laidTests := true, laidLooks := .later }
def NegoTwoCardSaid : Prop := Claim7.holds Tryz.pinned (.plain (OpenSpec.ofChange negoTwoSpec)) negoTwoCard

/-- THE TIED CARD OF 'muleteerlaw18.PaceFull'. -/
def paceFullCard : Claim7 := { stood := { row := paceFullRow, standIns := [], harness := (true, "476433af179e8af350de63a8e7896a51e6e67c9a3dd809cdc292fb450880ecd1"), looks := true }, kinds := [], alts := [], laidByText := true, laidKinds := [.data, .data, .data, .data, .sentinel, .sentinel, .pinned], laidTests := true, laidLooks := .later }
def PaceFullCardSaid : Prop := Claim7.holds Tryz.pinned (.plain (OpenSpec.ofChange paceFullSpec)) paceFullCard

/-- THE SECOND FORM's CARD OF 'muleteerlaw18.FeatChoose'. -/
def featChooseUptoCard : Claim7 := { stood := { row := featChooseUptoRow, standIns := [], harness := (true, "476433af179e8af350de63a8e7896a51e6e67c9a3dd809cdc292fb450880ecd1"), looks := true }, kinds := [], alts := [], laidByText := true, laidKinds := [.data, .data, .data, .data, .sentinel, .sentinel, .pinned], laidTests := true, laidLooks := .later }
def FeatChooseUptoCardSaid : Prop := Claim7.holds Tryz.pinned (.plain (OpenSpec.upto featChooseSpec)) featChooseUptoCard

/-- THE SECOND FORM's CARD OF 'muleteerlaw18.CtrlWait'. -/
def ctrlWaitUptoCard : Claim7 := { stood := { row := ctrlWaitUptoRow, standIns := [], harness := (true, "476433af179e8af350de63a8e7896a51e6e67c9a3dd809cdc292fb450880ecd1"), looks := true }, kinds := [], alts := [], laidByText := true, laidKinds := [.data, .data, .data, .data, .sentinel, .sentinel, .pinned], laidTests := true, laidLooks := .later }
def CtrlWaitUptoCardSaid : Prop := Claim7.holds Tryz.pinned (.plain (OpenSpec.upto ctrlWaitSpec)) ctrlWaitUptoCard

/-- THE SECOND FORM's CARD OF 'muleteerlaw18.CtrlHear'. -/
def ctrlHearUptoCard : Claim7 := { stood := { row := ctrlHearUptoRow, standIns := [], harness := (true, "476433af179e8af350de63a8e7896a51e6e67c9a3dd809cdc292fb450880ecd1"), looks := true }, kinds := [], alts := [], laidByText := true, laidKinds := [.data, .data, .data, .data, .sentinel, .sentinel, .pinned], laidTests := true, laidLooks := .later }
def CtrlHearUptoCardSaid : Prop := Claim7.holds Tryz.pinned (.plain (OpenSpec.upto ctrlHearSpec)) ctrlHearUptoCard

/-- THE SECOND FORM's CARD OF 'muleteerlaw18.CtrlFire'. -/
def ctrlFireUptoCard : Claim7 := { stood := { row := ctrlFireUptoRow, standIns := [], harness := (true, "476433af179e8af350de63a8e7896a51e6e67c9a3dd809cdc292fb450880ecd1"), looks := true }, kinds := [], alts := [], laidByText := true, laidKinds := [.data, .data, .data, .data, .sentinel, .sentinel, .pinned], laidTests := true, laidLooks := .later }
def CtrlFireUptoCardSaid : Prop := Claim7.holds Tryz.pinned (.plain (OpenSpec.upto ctrlFireSpec)) ctrlFireUptoCard

/-- THE SECOND FORM's CARD OF 'muleteerlaw18.CtrlNoLoss'. -/
def ctrlNoLossUptoCard : Claim7 := { stood := { row := ctrlNoLossUptoRow, standIns := [], harness := (true, "476433af179e8af350de63a8e7896a51e6e67c9a3dd809cdc292fb450880ecd1"), looks := true }, kinds := [], alts := [], laidByText := true, laidKinds := [.data, .data, .data, .data, .sentinel, .sentinel, .pinned], laidTests := true, laidLooks := .later }
def CtrlNoLossUptoCardSaid : Prop := Claim7.holds Tryz.pinned (.plain (OpenSpec.upto ctrlNoLossSpec)) ctrlNoLossUptoCard

/-- THE SECOND FORM's CARD OF 'muleteerlaw18.NegoAsk'. -/
def negoAskUptoCard : Claim7 := { stood := { row := negoAskUptoRow, standIns := [], harness := (true, "476433af179e8af350de63a8e7896a51e6e67c9a3dd809cdc292fb450880ecd1"), looks := true }, kinds := [], alts := [], laidByText := true, laidKinds := [.data, .data, .data, .data, .sentinel, .sentinel, .pinned], laidTests := true, laidLooks := .later }
def NegoAskUptoCardSaid : Prop := Claim7.holds Tryz.pinned (.plain (OpenSpec.upto negoAskSpec)) negoAskUptoCard

/-- THE SECOND FORM's CARD OF 'muleteerlaw18.NegoBad'. -/
def negoBadUptoCard : Claim7 := { stood := { row := negoBadUptoRow, standIns := [], harness := (true, "476433af179e8af350de63a8e7896a51e6e67c9a3dd809cdc292fb450880ecd1"), looks := true }, kinds := [], alts := [], laidByText := true, laidKinds := [.data, .data, .data, .data, .sentinel, .sentinel, .pinned], laidTests := true, laidLooks := .later }
def NegoBadUptoCardSaid : Prop := Claim7.holds Tryz.pinned (.plain (OpenSpec.upto negoBadSpec)) negoBadUptoCard

/-- THE SECOND FORM's CARD OF 'muleteerlaw18.NegoMust'. -/
def negoMustUptoCard : Claim7 := { stood := { row := negoMustUptoRow, standIns := [], harness := (true, "476433af179e8af350de63a8e7896a51e6e67c9a3dd809cdc292fb450880ecd1"), looks := true }, kinds := [], alts := [], laidByText := true, laidKinds := [.data, .data, .data, .data, .sentinel, .sentinel, .pinned], laidTests := true, laidLooks := .later }
def NegoMustUptoCardSaid : Prop := Claim7.holds Tryz.pinned (.plain (OpenSpec.upto negoMustSpec)) negoMustUptoCard

/-- THE SECOND FORM's CARD OF 'muleteerlaw18.NegoAgain'. -/
def negoAgainUptoCard : Claim7 := { stood := { row := negoAgainUptoRow, standIns := [], harness := (true, "476433af179e8af350de63a8e7896a51e6e67c9a3dd809cdc292fb450880ecd1"), looks := true }, kinds := [], alts := [], laidByText := true, laidKinds := [.data, .data, .data, .data, .sentinel, .sentinel, .pinned], laidTests := true, laidLooks := .later }
def NegoAgainUptoCardSaid : Prop := Claim7.holds Tryz.pinned (.plain (OpenSpec.upto negoAgainSpec)) negoAgainUptoCard

/-- THE SECOND FORM's CARD OF 'muleteerlaw18.NegoAll'. -/
def negoAllUptoCard : Claim7 := { stood := { row := negoAllUptoRow, standIns := [], harness := (true, "476433af179e8af350de63a8e7896a51e6e67c9a3dd809cdc292fb450880ecd1"), looks := true }, kinds := [], alts := [], laidByText := true, laidKinds := [.data, .data, .data, .data, .sentinel, .sentinel, .pinned], laidTests := true, laidLooks := .later }
def NegoAllUptoCardSaid : Prop := Claim7.holds Tryz.pinned (.plain (OpenSpec.upto negoAllSpec)) negoAllUptoCard

/-- THE SECOND FORM's CARD OF 'muleteerlaw18.NegoTwo'. -/
def negoTwoUptoCard : Claim7 := { stood := { row := negoTwoUptoRow, standIns := [], harness := (true, "476433af179e8af350de63a8e7896a51e6e67c9a3dd809cdc292fb450880ecd1"), looks := true }, kinds := [], alts := [], laidByText := true, laidKinds := [.data, .data, .data, .data, .sentinel, .sentinel, .pinned], laidTests := true, laidLooks := .later }
def NegoTwoUptoCardSaid : Prop := Claim7.holds Tryz.pinned (.plain (OpenSpec.upto negoTwoSpec)) negoTwoUptoCard

/-- THE SECOND FORM's CARD OF 'muleteerlaw18.PaceFull'. -/
def paceFullUptoCard : Claim7 := { stood := { row := paceFullUptoRow, standIns := [], harness := (true, "476433af179e8af350de63a8e7896a51e6e67c9a3dd809cdc292fb450880ecd1"), looks := true }, kinds := [], alts := [], laidByText := true, laidKinds := [.data, .data, .data, .data, .sentinel, .sentinel, .pinned], laidTests := true, laidLooks := .later }
def PaceFullUptoCardSaid : Prop := Claim7.holds Tryz.pinned (.plain (OpenSpec.upto paceFullSpec)) paceFullUptoCard
end Rows
end Go.Proofs.YtngjglbakgdgaaaGreatDoor
