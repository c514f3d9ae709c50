/-
  DERIVED. GIVEN WITH THE SEED: THE CARDS: each row of YtnnimodkmjedaaaGreatDoorRows.lean that lists a variable, with what it lists TIED to the program's text (the seventh form; the later family's looks); each row that meets fmt, with fmt's text TOLD by the authors' own Lean function (tested against real Go, not proved from fmt's source: count such statements apart). THE CARD IS WHAT COUNTS. Prove the row's statement (the work); the ties are given (YtnnimodkmjedaaaGreatDoorTie.lean); close each card by the builder's one call (the guide's Derived/Test/ToyasCard.lean, 'card_holds'). Laid BY PROGRAM, IN A SANDBOX (cutbox-door.mjs). By AI agents, Wed Nov 11 2026. No macro, syntax, notation, axiom, sorry.
-/
import Derived.Test.YtnnimodkmjedaaaGreatDoorRows
import GoSem.ClaimSeven
namespace Go.Proofs.YtnnimodkmjedaaaGreatDoor
namespace Rows

/-- THE TIED CARD OF 'milestonelaw13.SeekShares'. -/
def seekSharesCard : Claim7 := { stood := { row := seekSharesRow, standIns := [], harness := (true, "eacf3ee58a0a37bb9114242c02b359a1aed6401a4b9b5d585c853fe8771138f5"), looks := true }, kinds := [], alts := [], laidByText := true, laidKinds := [.handle], laidTests := true, laidLooks := .later }
def SeekSharesCardSaid : Prop := Claim7.holds Tryz.pinned (.plain (OpenSpec.ofChange seekSharesSpec)) seekSharesCard

/-- THE TIED CARD OF 'milestonelaw13.SeekMeasures'. -/
def seekMeasuresCard : Claim7 := { stood := { row := seekMeasuresRow, standIns := [], harness := (true, "eacf3ee58a0a37bb9114242c02b359a1aed6401a4b9b5d585c853fe8771138f5"), looks := true }, kinds := [], alts := [], laidByText := true, laidKinds := [.handle], laidTests := true, laidLooks := .later }
def SeekMeasuresCardSaid : Prop := Claim7.holds Tryz.pinned (.plain (OpenSpec.ofChange seekMeasuresSpec)) seekMeasuresCard

/-- THE TIED CARD OF 'milestonelaw18.BoundActive'. -/
def boundActiveCard : Claim7 := { stood := { row := boundActiveRow, standIns := [], harness := (true, "eacf3ee58a0a37bb9114242c02b359a1aed6401a4b9b5d585c853fe8771138f5"), looks := true }, kinds := [], alts := [], laidByText := true, laidKinds := [.handle], laidTests := true, laidLooks := .later }
def BoundActiveCardSaid : Prop := Claim7.holds Tryz.pinned (.plain (OpenSpec.ofChange boundActiveSpec)) boundActiveCard

/-- THE TIED CARD OF 'milestonelaw25.FlagTells'. -/
def flagTellsCard : Claim7 := { stood := { row := flagTellsRow, standIns := [], harness := (true, "eacf3ee58a0a37bb9114242c02b359a1aed6401a4b9b5d585c853fe8771138f5"), looks := true }, kinds := [], alts := [], laidByText := true, laidKinds := [.handle], laidTests := true, laidLooks := .later }
def FlagTellsCardSaid : Prop := Claim7.holds Tryz.pinned (.plain (OpenSpec.ofChange flagTellsSpec)) flagTellsCard

/-- THE TIED CARD OF 'milestonelaw25.FlagOne'. -/
def flagOneCard : Claim7 := { stood := { row := flagOneRow, standIns := [], harness := (true, "eacf3ee58a0a37bb9114242c02b359a1aed6401a4b9b5d585c853fe8771138f5"), looks := true }, kinds := [], alts := [], laidByText := true, laidKinds := [.handle], laidTests := true, laidLooks := .later }
def FlagOneCardSaid : Prop := Claim7.holds Tryz.pinned (.plain (OpenSpec.ofChange flagOneSpec)) flagOneCard

/-- THE TIED CARD OF 'milestonelaw25.FlagKeeps'. -/
def flagKeepsCard : Claim7 := { stood := { row := flagKeepsRow, standIns := [], harness := (true, "eacf3ee58a0a37bb9114242c02b359a1aed6401a4b9b5d585c853fe8771138f5"), looks := true }, kinds := [], alts := [], laidByText := true, laidKinds := [.handle], laidTests := true, laidLooks := .later }
def FlagKeepsCardSaid : Prop := Claim7.holds Tryz.pinned (.plain (OpenSpec.ofChange flagKeepsSpec)) flagKeepsCard

/-- THE SECOND FORM's CARD OF 'milestonelaw13.SeekShares'. -/
def seekSharesUptoCard : Claim7 := { stood := { row := seekSharesUptoRow, standIns := [], harness := (true, "eacf3ee58a0a37bb9114242c02b359a1aed6401a4b9b5d585c853fe8771138f5"), looks := true }, kinds := [], alts := [], laidByText := true, laidKinds := [.handle], laidTests := true, laidLooks := .later }
def SeekSharesUptoCardSaid : Prop := Claim7.holds Tryz.pinned (.plain (OpenSpec.upto seekSharesSpec)) seekSharesUptoCard

/-- THE SECOND FORM's CARD OF 'milestonelaw13.SeekMeasures'. -/
def seekMeasuresUptoCard : Claim7 := { stood := { row := seekMeasuresUptoRow, standIns := [], harness := (true, "eacf3ee58a0a37bb9114242c02b359a1aed6401a4b9b5d585c853fe8771138f5"), looks := true }, kinds := [], alts := [], laidByText := true, laidKinds := [.handle], laidTests := true, laidLooks := .later }
def SeekMeasuresUptoCardSaid : Prop := Claim7.holds Tryz.pinned (.plain (OpenSpec.upto seekMeasuresSpec)) seekMeasuresUptoCard

/-- THE SECOND FORM's CARD OF 'milestonelaw18.BoundActive'. -/
def boundActiveUptoCard : Claim7 := { stood := { row := boundActiveUptoRow, standIns := [], harness := (true, "eacf3ee58a0a37bb9114242c02b359a1aed6401a4b9b5d585c853fe8771138f5"), looks := true }, kinds := [], alts := [], laidByText := true, laidKinds := [.handle], laidTests := true, laidLooks := .later }
def BoundActiveUptoCardSaid : Prop := Claim7.holds Tryz.pinned (.plain (OpenSpec.upto boundActiveSpec)) boundActiveUptoCard

/-- THE SECOND FORM's CARD OF 'milestonelaw25.FlagTells'. -/
def flagTellsUptoCard : Claim7 := { stood := { row := flagTellsUptoRow, standIns := [], harness := (true, "eacf3ee58a0a37bb9114242c02b359a1aed6401a4b9b5d585c853fe8771138f5"), looks := true }, kinds := [], alts := [], laidByText := true, laidKinds := [.handle], laidTests := true, laidLooks := .later }
def FlagTellsUptoCardSaid : Prop := Claim7.holds Tryz.pinned (.plain (OpenSpec.upto flagTellsSpec)) flagTellsUptoCard

/-- THE SECOND FORM's CARD OF 'milestonelaw25.FlagOne'. -/
def flagOneUptoCard : Claim7 := { stood := { row := flagOneUptoRow, standIns := [], harness := (true, "eacf3ee58a0a37bb9114242c02b359a1aed6401a4b9b5d585c853fe8771138f5"), looks := true }, kinds := [], alts := [], laidByText := true, laidKinds := [.handle], laidTests := true, laidLooks := .later }
def FlagOneUptoCardSaid : Prop := Claim7.holds Tryz.pinned (.plain (OpenSpec.upto flagOneSpec)) flagOneUptoCard

/-- THE SECOND FORM's CARD OF 'milestonelaw25.FlagKeeps'. -/
def flagKeepsUptoCard : Claim7 := { stood := { row := flagKeepsUptoRow, standIns := [], harness := (true, "eacf3ee58a0a37bb9114242c02b359a1aed6401a4b9b5d585c853fe8771138f5"), looks := true }, kinds := [], alts := [], laidByText := true, laidKinds := [.handle], laidTests := true, laidLooks := .later }
def FlagKeepsUptoCardSaid : Prop := Claim7.holds Tryz.pinned (.plain (OpenSpec.upto flagKeepsSpec)) flagKeepsUptoCard
end Rows
end Go.Proofs.YtnnimodkmjedaaaGreatDoor
