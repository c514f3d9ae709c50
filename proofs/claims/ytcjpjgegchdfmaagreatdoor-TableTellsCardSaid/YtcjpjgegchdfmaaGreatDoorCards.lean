/-
  DERIVED. GIVEN WITH THE SEED: THE CARDS: each row of YtcjpjgegchdfmaaGreatDoorRows.lean that lists a variable, with what it lists TIED to the program's text (the seventh form; the later family's looks); each row that meets fmt, with fmt's text TOLD by the authors' own Lean function (tested against real Go, not proved from fmt's source: count such statements apart). THE CARD IS WHAT COUNTS. Prove the row's statement (the work); the ties are given (YtcjpjgegchdfmaaGreatDoorTie.lean); close each card by the builder's one call (the guide's Derived/Test/ToyasCard.lean, 'card_holds'). Laid BY PROGRAM, IN A SANDBOX (cutbox-door.mjs). By AI agents, Wed Nov 11 2026. No macro, syntax, notation, axiom, sorry.
-/
import Derived.Test.YtcjpjgegchdfmaaGreatDoorRows
import GoSem.ClaimSeven
namespace Go.Proofs.YtcjpjgegchdfmaaGreatDoor
namespace Rows

/-- THE TIED CARD OF 'milestonelaw17.TableTells'. -/
def tableTellsCard : Claim7 := { stood := { row := tableTellsRow, standIns := [], harness := (true, "244b37dd0b7b38a7d02933b3922a7f0e390f2fc649963175a7d93a15586c1026"), looks := true }, kinds := [], alts := [], laidByText := true, laidKinds := [.handle], laidTests := true, laidLooks := .later }
def TableTellsCardSaid : Prop := Claim7.holds Tryz.pinned (.plain (OpenSpec.ofChange tableTellsSpec)) tableTellsCard

/-- THE TIED CARD OF 'milestonelaw17.TableSteps'. -/
def tableStepsCard : Claim7 := { stood := { row := tableStepsRow, standIns := [], harness := (true, "244b37dd0b7b38a7d02933b3922a7f0e390f2fc649963175a7d93a15586c1026"), looks := true }, kinds := [], alts := [], laidByText := true, laidKinds := [.handle], laidTests := true, laidLooks := .later }
def TableStepsCardSaid : Prop := Claim7.holds Tryz.pinned (.plain (OpenSpec.ofChange tableStepsSpec)) tableStepsCard

/-- THE TIED CARD OF 'milestonelaw17.TableBack'. -/
def tableBackCard : Claim7 := { stood := { row := tableBackRow, standIns := [], harness := (true, "244b37dd0b7b38a7d02933b3922a7f0e390f2fc649963175a7d93a15586c1026"), looks := true }, kinds := [], alts := [], laidByText := true, laidKinds := [.handle], laidTests := true, laidLooks := .later }
def TableBackCardSaid : Prop := Claim7.holds Tryz.pinned (.plain (OpenSpec.ofChange tableBackSpec)) tableBackCard

/-- THE TIED CARD OF 'milestonelaw18.BoundLow'. -/
def boundLowCard : Claim7 := { stood := { row := boundLowRow, standIns := [], harness := (true, "244b37dd0b7b38a7d02933b3922a7f0e390f2fc649963175a7d93a15586c1026"), looks := true }, kinds := [], alts := [], laidByText := true, laidKinds := [.handle], laidTests := true, laidLooks := .later }
def BoundLowCardSaid : Prop := Claim7.holds Tryz.pinned (.plain (OpenSpec.ofChange boundLowSpec)) boundLowCard

/-- THE TIED CARD OF 'milestonelaw18.BoundActive'. -/
def boundActiveCard : Claim7 := { stood := { row := boundActiveRow, standIns := [], harness := (true, "244b37dd0b7b38a7d02933b3922a7f0e390f2fc649963175a7d93a15586c1026"), looks := true }, kinds := [], alts := [], laidByText := true, laidKinds := [.handle], laidTests := true, laidLooks := .later }
def BoundActiveCardSaid : Prop := Claim7.holds Tryz.pinned (.plain (OpenSpec.ofChange boundActiveSpec)) boundActiveCard

/-- THE SECOND FORM's CARD OF 'milestonelaw17.TableTells'. -/
def tableTellsUptoCard : Claim7 := { stood := { row := tableTellsUptoRow, standIns := [], harness := (true, "244b37dd0b7b38a7d02933b3922a7f0e390f2fc649963175a7d93a15586c1026"), looks := true }, kinds := [], alts := [], laidByText := true, laidKinds := [.handle], laidTests := true, laidLooks := .later }
def TableTellsUptoCardSaid : Prop := Claim7.holds Tryz.pinned (.plain (OpenSpec.upto tableTellsSpec)) tableTellsUptoCard

/-- THE SECOND FORM's CARD OF 'milestonelaw17.TableSteps'. -/
def tableStepsUptoCard : Claim7 := { stood := { row := tableStepsUptoRow, standIns := [], harness := (true, "244b37dd0b7b38a7d02933b3922a7f0e390f2fc649963175a7d93a15586c1026"), looks := true }, kinds := [], alts := [], laidByText := true, laidKinds := [.handle], laidTests := true, laidLooks := .later }
def TableStepsUptoCardSaid : Prop := Claim7.holds Tryz.pinned (.plain (OpenSpec.upto tableStepsSpec)) tableStepsUptoCard

/-- THE SECOND FORM's CARD OF 'milestonelaw17.TableBack'. -/
def tableBackUptoCard : Claim7 := { stood := { row := tableBackUptoRow, standIns := [], harness := (true, "244b37dd0b7b38a7d02933b3922a7f0e390f2fc649963175a7d93a15586c1026"), looks := true }, kinds := [], alts := [], laidByText := true, laidKinds := [.handle], laidTests := true, laidLooks := .later }
def TableBackUptoCardSaid : Prop := Claim7.holds Tryz.pinned (.plain (OpenSpec.upto tableBackSpec)) tableBackUptoCard

/-- THE SECOND FORM's CARD OF 'milestonelaw18.BoundLow'. -/
def boundLowUptoCard : Claim7 := { stood := { row := boundLowUptoRow, standIns := [], harness := (true, "244b37dd0b7b38a7d02933b3922a7f0e390f2fc649963175a7d93a15586c1026"), looks := true }, kinds := [], alts := [], laidByText := true, laidKinds := [.handle], laidTests := true, laidLooks := .later }
def BoundLowUptoCardSaid : Prop := Claim7.holds Tryz.pinned (.plain (OpenSpec.upto boundLowSpec)) boundLowUptoCard

/-- THE SECOND FORM's CARD OF 'milestonelaw18.BoundActive'. -/
def boundActiveUptoCard : Claim7 := { stood := { row := boundActiveUptoRow, standIns := [], harness := (true, "244b37dd0b7b38a7d02933b3922a7f0e390f2fc649963175a7d93a15586c1026"), looks := true }, kinds := [], alts := [], laidByText := true, laidKinds := [.handle], laidTests := true, laidLooks := .later }
def BoundActiveUptoCardSaid : Prop := Claim7.holds Tryz.pinned (.plain (OpenSpec.upto boundActiveSpec)) boundActiveUptoCard
end Rows
end Go.Proofs.YtcjpjgegchdfmaaGreatDoor
