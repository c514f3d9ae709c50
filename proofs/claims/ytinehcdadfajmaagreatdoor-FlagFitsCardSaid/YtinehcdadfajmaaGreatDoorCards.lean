/-
  DERIVED. GIVEN WITH THE SEED: THE CARDS: each row of YtinehcdadfajmaaGreatDoorRows.lean that lists a variable, with what it lists TIED to the program's text (the seventh form; the later family's looks); each row that meets fmt, with fmt's text TOLD by the authors' own Lean function (tested against real Go, not proved from fmt's source: count such statements apart). THE CARD IS WHAT COUNTS. Prove the row's statement (the work); the ties are given (YtinehcdadfajmaaGreatDoorTie.lean); close each card by the builder's one call (the guide's Derived/Test/ToyasCard.lean, 'card_holds'). Laid BY PROGRAM, IN A SANDBOX (cutbox-door.mjs). By AI agents, Wed Nov 11 2026. No macro, syntax, notation, axiom, sorry.
-/
import Derived.Test.YtinehcdadfajmaaGreatDoorRows
import GoSem.ClaimSeven
namespace Go.Proofs.YtinehcdadfajmaaGreatDoor
namespace Rows

/-- THE TIED CARD OF 'milestonelaw25.FlagFits'. -/
def flagFitsCard : Claim7 := { stood := { row := flagFitsRow, standIns := [], harness := (true, "f1e2cb5b7f70ff3f0b18b054aa0fbf5f8c4da56d2fa9ba0ac1dfad12e54861b5"), looks := true }, kinds := [], alts := [], laidByText := true, laidKinds := [.handle], laidTests := true, laidLooks := .later }
def FlagFitsCardSaid : Prop := Claim7.holds Tryz.pinned (.plain (OpenSpec.ofChange flagFitsSpec)) flagFitsCard

/-- THE TIED CARD OF 'milestonelaw17.TableBack'. -/
def tableBackCard : Claim7 := { stood := { row := tableBackRow, standIns := [], harness := (true, "f1e2cb5b7f70ff3f0b18b054aa0fbf5f8c4da56d2fa9ba0ac1dfad12e54861b5"), looks := true }, kinds := [], alts := [], laidByText := true, laidKinds := [.handle], laidTests := true, laidLooks := .later }
def TableBackCardSaid : Prop := Claim7.holds Tryz.pinned (.plain (OpenSpec.ofChange tableBackSpec)) tableBackCard

/-- THE TIED CARD OF 'milestonelaw17.TableSteps'. -/
def tableStepsCard : Claim7 := { stood := { row := tableStepsRow, standIns := [], harness := (true, "f1e2cb5b7f70ff3f0b18b054aa0fbf5f8c4da56d2fa9ba0ac1dfad12e54861b5"), looks := true }, kinds := [], alts := [], laidByText := true, laidKinds := [.handle], laidTests := true, laidLooks := .later }
def TableStepsCardSaid : Prop := Claim7.holds Tryz.pinned (.plain (OpenSpec.ofChange tableStepsSpec)) tableStepsCard

/-- THE TIED CARD OF 'milestonelaw17.TableTells'. -/
def tableTellsCard : Claim7 := { stood := { row := tableTellsRow, standIns := [], harness := (true, "f1e2cb5b7f70ff3f0b18b054aa0fbf5f8c4da56d2fa9ba0ac1dfad12e54861b5"), looks := true }, kinds := [], alts := [], laidByText := true, laidKinds := [.handle], laidTests := true, laidLooks := .later }
def TableTellsCardSaid : Prop := Claim7.holds Tryz.pinned (.plain (OpenSpec.ofChange tableTellsSpec)) tableTellsCard

/-- THE TIED CARD OF 'milestonelaw18.BoundActive'. -/
def boundActiveCard : Claim7 := { stood := { row := boundActiveRow, standIns := [], harness := (true, "f1e2cb5b7f70ff3f0b18b054aa0fbf5f8c4da56d2fa9ba0ac1dfad12e54861b5"), looks := true }, kinds := [], alts := [], laidByText := true, laidKinds := [.handle], laidTests := true, laidLooks := .later }
def BoundActiveCardSaid : Prop := Claim7.holds Tryz.pinned (.plain (OpenSpec.ofChange boundActiveSpec)) boundActiveCard

/-- THE TIED CARD OF 'milestonelaw18.BoundLow'. -/
def boundLowCard : Claim7 := { stood := { row := boundLowRow, standIns := [], harness := (true, "f1e2cb5b7f70ff3f0b18b054aa0fbf5f8c4da56d2fa9ba0ac1dfad12e54861b5"), looks := true }, kinds := [], alts := [], laidByText := true, laidKinds := [.handle], laidTests := true, laidLooks := .later }
def BoundLowCardSaid : Prop := Claim7.holds Tryz.pinned (.plain (OpenSpec.ofChange boundLowSpec)) boundLowCard

/-- THE SECOND FORM's CARD OF 'milestonelaw25.FlagFits'. -/
def flagFitsUptoCard : Claim7 := { stood := { row := flagFitsUptoRow, standIns := [], harness := (true, "f1e2cb5b7f70ff3f0b18b054aa0fbf5f8c4da56d2fa9ba0ac1dfad12e54861b5"), looks := true }, kinds := [], alts := [], laidByText := true, laidKinds := [.handle], laidTests := true, laidLooks := .later }
def FlagFitsUptoCardSaid : Prop := Claim7.holds Tryz.pinned (.plain (OpenSpec.upto flagFitsSpec)) flagFitsUptoCard

/-- THE SECOND FORM's CARD OF 'milestonelaw17.TableBack'. -/
def tableBackUptoCard : Claim7 := { stood := { row := tableBackUptoRow, standIns := [], harness := (true, "f1e2cb5b7f70ff3f0b18b054aa0fbf5f8c4da56d2fa9ba0ac1dfad12e54861b5"), looks := true }, kinds := [], alts := [], laidByText := true, laidKinds := [.handle], laidTests := true, laidLooks := .later }
def TableBackUptoCardSaid : Prop := Claim7.holds Tryz.pinned (.plain (OpenSpec.upto tableBackSpec)) tableBackUptoCard

/-- THE SECOND FORM's CARD OF 'milestonelaw17.TableSteps'. -/
def tableStepsUptoCard : Claim7 := { stood := { row := tableStepsUptoRow, standIns := [], harness := (true, "f1e2cb5b7f70ff3f0b18b054aa0fbf5f8c4da56d2fa9ba0ac1dfad12e54861b5"), looks := true }, kinds := [], alts := [], laidByText := true, laidKinds := [.handle], laidTests := true, laidLooks := .later }
def TableStepsUptoCardSaid : Prop := Claim7.holds Tryz.pinned (.plain (OpenSpec.upto tableStepsSpec)) tableStepsUptoCard

/-- THE SECOND FORM's CARD OF 'milestonelaw17.TableTells'. -/
def tableTellsUptoCard : Claim7 := { stood := { row := tableTellsUptoRow, standIns := [], harness := (true, "f1e2cb5b7f70ff3f0b18b054aa0fbf5f8c4da56d2fa9ba0ac1dfad12e54861b5"), looks := true }, kinds := [], alts := [], laidByText := true, laidKinds := [.handle], laidTests := true, laidLooks := .later }
def TableTellsUptoCardSaid : Prop := Claim7.holds Tryz.pinned (.plain (OpenSpec.upto tableTellsSpec)) tableTellsUptoCard

/-- THE SECOND FORM's CARD OF 'milestonelaw18.BoundActive'. -/
def boundActiveUptoCard : Claim7 := { stood := { row := boundActiveUptoRow, standIns := [], harness := (true, "f1e2cb5b7f70ff3f0b18b054aa0fbf5f8c4da56d2fa9ba0ac1dfad12e54861b5"), looks := true }, kinds := [], alts := [], laidByText := true, laidKinds := [.handle], laidTests := true, laidLooks := .later }
def BoundActiveUptoCardSaid : Prop := Claim7.holds Tryz.pinned (.plain (OpenSpec.upto boundActiveSpec)) boundActiveUptoCard

/-- THE SECOND FORM's CARD OF 'milestonelaw18.BoundLow'. -/
def boundLowUptoCard : Claim7 := { stood := { row := boundLowUptoRow, standIns := [], harness := (true, "f1e2cb5b7f70ff3f0b18b054aa0fbf5f8c4da56d2fa9ba0ac1dfad12e54861b5"), looks := true }, kinds := [], alts := [], laidByText := true, laidKinds := [.handle], laidTests := true, laidLooks := .later }
def BoundLowUptoCardSaid : Prop := Claim7.holds Tryz.pinned (.plain (OpenSpec.upto boundLowSpec)) boundLowUptoCard
end Rows
end Go.Proofs.YtinehcdadfajmaaGreatDoor
