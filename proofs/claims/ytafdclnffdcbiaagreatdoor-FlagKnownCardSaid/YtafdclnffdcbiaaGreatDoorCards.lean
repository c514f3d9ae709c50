/-
  DERIVED. GIVEN WITH THE SEED: THE CARDS: each row of YtafdclnffdcbiaaGreatDoorRows.lean that lists a variable, with what it lists TIED to the program's text (the seventh form; the later family's looks); each row that meets fmt, with fmt's text TOLD by the authors' own Lean function (tested against real Go, not proved from fmt's source: count such statements apart). THE CARD IS WHAT COUNTS. Prove the row's statement (the work); the ties are given (YtafdclnffdcbiaaGreatDoorTie.lean); close each card by the builder's one call (the guide's Derived/Test/ToyasCard.lean, 'card_holds'). Laid BY PROGRAM, IN A SANDBOX (cutbox-door.mjs). By AI agents, Wed Nov 11 2026. No macro, syntax, notation, axiom, sorry.
-/
import Derived.Test.YtafdclnffdcbiaaGreatDoorRows
import GoSem.ClaimSeven
namespace Go.Proofs.YtafdclnffdcbiaaGreatDoor
namespace Rows

/-- THE TIED CARD OF 'milestonelaw13.SeekShares'. -/
def seekSharesCard : Claim7 := { stood := { row := seekSharesRow, standIns := [], harness := (true, "b81b3feca1a0eeded50c9bf60b2a3bf5712567334bb9b2748e178811866027d1"), looks := true }, kinds := [], alts := [], laidByText := true, laidKinds := [.handle], laidTests := true, laidLooks := .later }
def SeekSharesCardSaid : Prop := Claim7.holds Tryz.pinned (.plain (OpenSpec.ofChange seekSharesSpec)) seekSharesCard

/-- THE TIED CARD OF 'milestonelaw13.SeekKnown'. -/
def seekKnownCard : Claim7 := { stood := { row := seekKnownRow, standIns := [], harness := (true, "b81b3feca1a0eeded50c9bf60b2a3bf5712567334bb9b2748e178811866027d1"), looks := true }, kinds := [], alts := [], laidByText := true, laidKinds := [.handle], laidTests := true, laidLooks := .later }
def SeekKnownCardSaid : Prop := Claim7.holds Tryz.pinned (.plain (OpenSpec.ofChange seekKnownSpec)) seekKnownCard

/-- THE TIED CARD OF 'milestonelaw13.SeekMeasures'. -/
def seekMeasuresCard : Claim7 := { stood := { row := seekMeasuresRow, standIns := [], harness := (true, "b81b3feca1a0eeded50c9bf60b2a3bf5712567334bb9b2748e178811866027d1"), looks := true }, kinds := [], alts := [], laidByText := true, laidKinds := [.handle], laidTests := true, laidLooks := .later }
def SeekMeasuresCardSaid : Prop := Claim7.holds Tryz.pinned (.plain (OpenSpec.ofChange seekMeasuresSpec)) seekMeasuresCard

/-- THE TIED CARD OF 'milestonelaw17.TableSteps'. -/
def tableStepsCard : Claim7 := { stood := { row := tableStepsRow, standIns := [], harness := (true, "b81b3feca1a0eeded50c9bf60b2a3bf5712567334bb9b2748e178811866027d1"), looks := true }, kinds := [], alts := [], laidByText := true, laidKinds := [.handle], laidTests := true, laidLooks := .later }
def TableStepsCardSaid : Prop := Claim7.holds Tryz.pinned (.plain (OpenSpec.ofChange tableStepsSpec)) tableStepsCard

/-- THE TIED CARD OF 'milestonelaw17.TableTells'. -/
def tableTellsCard : Claim7 := { stood := { row := tableTellsRow, standIns := [], harness := (true, "b81b3feca1a0eeded50c9bf60b2a3bf5712567334bb9b2748e178811866027d1"), looks := true }, kinds := [], alts := [], laidByText := true, laidKinds := [.handle], laidTests := true, laidLooks := .later }
def TableTellsCardSaid : Prop := Claim7.holds Tryz.pinned (.plain (OpenSpec.ofChange tableTellsSpec)) tableTellsCard

/-- THE TIED CARD OF 'milestonelaw17.TableBack'. -/
def tableBackCard : Claim7 := { stood := { row := tableBackRow, standIns := [], harness := (true, "b81b3feca1a0eeded50c9bf60b2a3bf5712567334bb9b2748e178811866027d1"), looks := true }, kinds := [], alts := [], laidByText := true, laidKinds := [.handle], laidTests := true, laidLooks := .later }
def TableBackCardSaid : Prop := Claim7.holds Tryz.pinned (.plain (OpenSpec.ofChange tableBackSpec)) tableBackCard

/-- THE TIED CARD OF 'milestonelaw17.TableKnown'. -/
def tableKnownCard : Claim7 := { stood := { row := tableKnownRow, standIns := [], harness := (true, "b81b3feca1a0eeded50c9bf60b2a3bf5712567334bb9b2748e178811866027d1"), looks := true }, kinds := [], alts := [], laidByText := true, laidKinds := [.handle], laidTests := true, laidLooks := .later }
def TableKnownCardSaid : Prop := Claim7.holds Tryz.pinned (.plain (OpenSpec.ofChange tableKnownSpec)) tableKnownCard

/-- THE TIED CARD OF 'milestonelaw18.BoundLow'. -/
def boundLowCard : Claim7 := { stood := { row := boundLowRow, standIns := [], harness := (true, "b81b3feca1a0eeded50c9bf60b2a3bf5712567334bb9b2748e178811866027d1"), looks := true }, kinds := [], alts := [], laidByText := true, laidKinds := [.handle], laidTests := true, laidLooks := .later }
def BoundLowCardSaid : Prop := Claim7.holds Tryz.pinned (.plain (OpenSpec.ofChange boundLowSpec)) boundLowCard

/-- THE TIED CARD OF 'milestonelaw25.FlagTells'. -/
def flagTellsCard : Claim7 := { stood := { row := flagTellsRow, standIns := [], harness := (true, "b81b3feca1a0eeded50c9bf60b2a3bf5712567334bb9b2748e178811866027d1"), looks := true }, kinds := [], alts := [], laidByText := true, laidKinds := [.handle], laidTests := true, laidLooks := .later }
def FlagTellsCardSaid : Prop := Claim7.holds Tryz.pinned (.plain (OpenSpec.ofChange flagTellsSpec)) flagTellsCard

/-- THE TIED CARD OF 'milestonelaw25.FlagFits'. -/
def flagFitsCard : Claim7 := { stood := { row := flagFitsRow, standIns := [], harness := (true, "b81b3feca1a0eeded50c9bf60b2a3bf5712567334bb9b2748e178811866027d1"), looks := true }, kinds := [], alts := [], laidByText := true, laidKinds := [.handle], laidTests := true, laidLooks := .later }
def FlagFitsCardSaid : Prop := Claim7.holds Tryz.pinned (.plain (OpenSpec.ofChange flagFitsSpec)) flagFitsCard

/-- THE TIED CARD OF 'milestonelaw25.FlagKnown'. -/
def flagKnownCard : Claim7 := { stood := { row := flagKnownRow, standIns := [], harness := (true, "b81b3feca1a0eeded50c9bf60b2a3bf5712567334bb9b2748e178811866027d1"), looks := true }, kinds := [], alts := [], laidByText := true, laidKinds := [.handle], laidTests := true, laidLooks := .later }
def FlagKnownCardSaid : Prop := Claim7.holds Tryz.pinned (.plain (OpenSpec.ofChange flagKnownSpec)) flagKnownCard

/-- THE SECOND FORM's CARD OF 'milestonelaw13.SeekShares'. -/
def seekSharesUptoCard : Claim7 := { stood := { row := seekSharesUptoRow, standIns := [], harness := (true, "b81b3feca1a0eeded50c9bf60b2a3bf5712567334bb9b2748e178811866027d1"), looks := true }, kinds := [], alts := [], laidByText := true, laidKinds := [.handle], laidTests := true, laidLooks := .later }
def SeekSharesUptoCardSaid : Prop := Claim7.holds Tryz.pinned (.plain (OpenSpec.upto seekSharesSpec)) seekSharesUptoCard

/-- THE SECOND FORM's CARD OF 'milestonelaw13.SeekKnown'. -/
def seekKnownUptoCard : Claim7 := { stood := { row := seekKnownUptoRow, standIns := [], harness := (true, "b81b3feca1a0eeded50c9bf60b2a3bf5712567334bb9b2748e178811866027d1"), looks := true }, kinds := [], alts := [], laidByText := true, laidKinds := [.handle], laidTests := true, laidLooks := .later }
def SeekKnownUptoCardSaid : Prop := Claim7.holds Tryz.pinned (.plain (OpenSpec.upto seekKnownSpec)) seekKnownUptoCard

/-- THE SECOND FORM's CARD OF 'milestonelaw13.SeekMeasures'. -/
def seekMeasuresUptoCard : Claim7 := { stood := { row := seekMeasuresUptoRow, standIns := [], harness := (true, "b81b3feca1a0eeded50c9bf60b2a3bf5712567334bb9b2748e178811866027d1"), looks := true }, kinds := [], alts := [], laidByText := true, laidKinds := [.handle], laidTests := true, laidLooks := .later }
def SeekMeasuresUptoCardSaid : Prop := Claim7.holds Tryz.pinned (.plain (OpenSpec.upto seekMeasuresSpec)) seekMeasuresUptoCard

/-- THE SECOND FORM's CARD OF 'milestonelaw17.TableSteps'. -/
def tableStepsUptoCard : Claim7 := { stood := { row := tableStepsUptoRow, standIns := [], harness := (true, "b81b3feca1a0eeded50c9bf60b2a3bf5712567334bb9b2748e178811866027d1"), looks := true }, kinds := [], alts := [], laidByText := true, laidKinds := [.handle], laidTests := true, laidLooks := .later }
def TableStepsUptoCardSaid : Prop := Claim7.holds Tryz.pinned (.plain (OpenSpec.upto tableStepsSpec)) tableStepsUptoCard

/-- THE SECOND FORM's CARD OF 'milestonelaw17.TableTells'. -/
def tableTellsUptoCard : Claim7 := { stood := { row := tableTellsUptoRow, standIns := [], harness := (true, "b81b3feca1a0eeded50c9bf60b2a3bf5712567334bb9b2748e178811866027d1"), looks := true }, kinds := [], alts := [], laidByText := true, laidKinds := [.handle], laidTests := true, laidLooks := .later }
def TableTellsUptoCardSaid : Prop := Claim7.holds Tryz.pinned (.plain (OpenSpec.upto tableTellsSpec)) tableTellsUptoCard

/-- THE SECOND FORM's CARD OF 'milestonelaw17.TableBack'. -/
def tableBackUptoCard : Claim7 := { stood := { row := tableBackUptoRow, standIns := [], harness := (true, "b81b3feca1a0eeded50c9bf60b2a3bf5712567334bb9b2748e178811866027d1"), looks := true }, kinds := [], alts := [], laidByText := true, laidKinds := [.handle], laidTests := true, laidLooks := .later }
def TableBackUptoCardSaid : Prop := Claim7.holds Tryz.pinned (.plain (OpenSpec.upto tableBackSpec)) tableBackUptoCard

/-- THE SECOND FORM's CARD OF 'milestonelaw17.TableKnown'. -/
def tableKnownUptoCard : Claim7 := { stood := { row := tableKnownUptoRow, standIns := [], harness := (true, "b81b3feca1a0eeded50c9bf60b2a3bf5712567334bb9b2748e178811866027d1"), looks := true }, kinds := [], alts := [], laidByText := true, laidKinds := [.handle], laidTests := true, laidLooks := .later }
def TableKnownUptoCardSaid : Prop := Claim7.holds Tryz.pinned (.plain (OpenSpec.upto tableKnownSpec)) tableKnownUptoCard

/-- THE SECOND FORM's CARD OF 'milestonelaw18.BoundLow'. -/
def boundLowUptoCard : Claim7 := { stood := { row := boundLowUptoRow, standIns := [], harness := (true, "b81b3feca1a0eeded50c9bf60b2a3bf5712567334bb9b2748e178811866027d1"), looks := true }, kinds := [], alts := [], laidByText := true, laidKinds := [.handle], laidTests := true, laidLooks := .later }
def BoundLowUptoCardSaid : Prop := Claim7.holds Tryz.pinned (.plain (OpenSpec.upto boundLowSpec)) boundLowUptoCard

/-- THE SECOND FORM's CARD OF 'milestonelaw25.FlagTells'. -/
def flagTellsUptoCard : Claim7 := { stood := { row := flagTellsUptoRow, standIns := [], harness := (true, "b81b3feca1a0eeded50c9bf60b2a3bf5712567334bb9b2748e178811866027d1"), looks := true }, kinds := [], alts := [], laidByText := true, laidKinds := [.handle], laidTests := true, laidLooks := .later }
def FlagTellsUptoCardSaid : Prop := Claim7.holds Tryz.pinned (.plain (OpenSpec.upto flagTellsSpec)) flagTellsUptoCard

/-- THE SECOND FORM's CARD OF 'milestonelaw25.FlagFits'. -/
def flagFitsUptoCard : Claim7 := { stood := { row := flagFitsUptoRow, standIns := [], harness := (true, "b81b3feca1a0eeded50c9bf60b2a3bf5712567334bb9b2748e178811866027d1"), looks := true }, kinds := [], alts := [], laidByText := true, laidKinds := [.handle], laidTests := true, laidLooks := .later }
def FlagFitsUptoCardSaid : Prop := Claim7.holds Tryz.pinned (.plain (OpenSpec.upto flagFitsSpec)) flagFitsUptoCard

/-- THE SECOND FORM's CARD OF 'milestonelaw25.FlagKnown'. -/
def flagKnownUptoCard : Claim7 := { stood := { row := flagKnownUptoRow, standIns := [], harness := (true, "b81b3feca1a0eeded50c9bf60b2a3bf5712567334bb9b2748e178811866027d1"), looks := true }, kinds := [], alts := [], laidByText := true, laidKinds := [.handle], laidTests := true, laidLooks := .later }
def FlagKnownUptoCardSaid : Prop := Claim7.holds Tryz.pinned (.plain (OpenSpec.upto flagKnownSpec)) flagKnownUptoCard
end Rows
end Go.Proofs.YtafdclnffdcbiaaGreatDoor
