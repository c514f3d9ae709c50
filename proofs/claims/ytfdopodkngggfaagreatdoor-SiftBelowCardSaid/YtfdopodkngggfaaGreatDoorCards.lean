/-
  DERIVED. GIVEN WITH THE SEED: THE CARDS: each row of YtfdopodkngggfaaGreatDoorRows.lean that lists a variable, with what it lists TIED to the program's text (the seventh form; the later family's looks); each row that meets fmt, with fmt's text TOLD by the authors' own Lean function (tested against real Go, not proved from fmt's source: count such statements apart). THE CARD IS WHAT COUNTS. Prove the row's statement (the work); the ties are given (YtfdopodkngggfaaGreatDoorTie.lean); close each card by the builder's one call (the guide's Derived/Test/ToyasCard.lean, 'card_holds'). Laid BY PROGRAM, IN A SANDBOX (cutbox-door.mjs). By AI agents, Wed Nov 11 2026. No macro, syntax, notation, axiom, sorry.
-/
import Derived.Test.YtfdopodkngggfaaGreatDoorRows
import GoSem.ClaimSeven
namespace Go.Proofs.YtfdopodkngggfaaGreatDoor
namespace Rows

/-- THE TIED CARD OF 'milestonelaw20.TwinErrors'. -/
def twinErrorsCard : Claim7 := { stood := { row := twinErrorsRow, standIns := [], harness := (true, "f70ff0d977c1f295ba5b039e5852e576e9bf55aac063cf2ed9b8088339bc4929"), looks := true }, kinds := [], alts := [], laidByText := true, laidKinds := [.handle], laidTests := true, laidLooks := .later }
def TwinErrorsCardSaid : Prop := Claim7.holds Tryz.pinned (.plain (OpenSpec.ofChange twinErrorsSpec)) twinErrorsCard

/-- THE TIED CARD OF 'milestonelaw20.TwinAlike'. -/
def twinAlikeCard : Claim7 := { stood := { row := twinAlikeRow, standIns := [], harness := (true, "f70ff0d977c1f295ba5b039e5852e576e9bf55aac063cf2ed9b8088339bc4929"), looks := true }, kinds := [], alts := [], laidByText := true, laidKinds := [.handle], laidTests := true, laidLooks := .later }
def TwinAlikeCardSaid : Prop := Claim7.holds Tryz.pinned (.plain (OpenSpec.ofChange twinAlikeSpec)) twinAlikeCard

/-- THE TIED CARD OF 'milestonelaw20.TwinLabels'. -/
def twinLabelsCard : Claim7 := { stood := { row := twinLabelsRow, standIns := [], harness := (true, "f70ff0d977c1f295ba5b039e5852e576e9bf55aac063cf2ed9b8088339bc4929"), looks := true }, kinds := [], alts := [], laidByText := true, laidKinds := [.handle], laidTests := true, laidLooks := .later }
def TwinLabelsCardSaid : Prop := Claim7.holds Tryz.pinned (.plain (OpenSpec.ofChange twinLabelsSpec)) twinLabelsCard

/-- THE TIED CARD OF 'milestonelaw20.TwinExact'. -/
def twinExactCard : Claim7 := { stood := { row := twinExactRow, standIns := [], harness := (true, "f70ff0d977c1f295ba5b039e5852e576e9bf55aac063cf2ed9b8088339bc4929"), looks := true }, kinds := [], alts := [], laidByText := true, laidKinds := [.handle], laidTests := true, laidLooks := .later }
def TwinExactCardSaid : Prop := Claim7.holds Tryz.pinned (.plain (OpenSpec.ofChange twinExactSpec)) twinExactCard

/-- THE TIED CARD OF 'milestonelaw26.SiftErrors'. -/
def siftErrorsCard : Claim7 := { stood := { row := siftErrorsRow, standIns := [], harness := (true, "f70ff0d977c1f295ba5b039e5852e576e9bf55aac063cf2ed9b8088339bc4929"), looks := true }, kinds := [], alts := [], laidByText := true, laidKinds := [.handle], laidTests := true, laidLooks := .later }
def SiftErrorsCardSaid : Prop := Claim7.holds Tryz.pinned (.plain (OpenSpec.ofChange siftErrorsSpec)) siftErrorsCard

/-- THE TIED CARD OF 'milestonelaw26.SiftBelow'. -/
def siftBelowCard : Claim7 := { stood := { row := siftBelowRow, standIns := [], harness := (true, "f70ff0d977c1f295ba5b039e5852e576e9bf55aac063cf2ed9b8088339bc4929"), looks := true }, kinds := [], alts := [], laidByText := true, laidKinds := [.handle], laidTests := true, laidLooks := .later }
def SiftBelowCardSaid : Prop := Claim7.holds Tryz.pinned (.plain (OpenSpec.ofChange siftBelowSpec)) siftBelowCard

/-- THE TIED CARD OF 'milestonelaw26.SiftExact'. -/
def siftExactCard : Claim7 := { stood := { row := siftExactRow, standIns := [], harness := (true, "f70ff0d977c1f295ba5b039e5852e576e9bf55aac063cf2ed9b8088339bc4929"), looks := true }, kinds := [], alts := [], laidByText := true, laidKinds := [.handle], laidTests := true, laidLooks := .later }
def SiftExactCardSaid : Prop := Claim7.holds Tryz.pinned (.plain (OpenSpec.ofChange siftExactSpec)) siftExactCard

/-- THE SECOND FORM's CARD OF 'milestonelaw20.TwinErrors'. -/
def twinErrorsUptoCard : Claim7 := { stood := { row := twinErrorsUptoRow, standIns := [], harness := (true, "f70ff0d977c1f295ba5b039e5852e576e9bf55aac063cf2ed9b8088339bc4929"), looks := true }, kinds := [], alts := [], laidByText := true, laidKinds := [.handle], laidTests := true, laidLooks := .later }
def TwinErrorsUptoCardSaid : Prop := Claim7.holds Tryz.pinned (.plain (OpenSpec.upto twinErrorsSpec)) twinErrorsUptoCard

/-- THE SECOND FORM's CARD OF 'milestonelaw20.TwinAlike'. -/
def twinAlikeUptoCard : Claim7 := { stood := { row := twinAlikeUptoRow, standIns := [], harness := (true, "f70ff0d977c1f295ba5b039e5852e576e9bf55aac063cf2ed9b8088339bc4929"), looks := true }, kinds := [], alts := [], laidByText := true, laidKinds := [.handle], laidTests := true, laidLooks := .later }
def TwinAlikeUptoCardSaid : Prop := Claim7.holds Tryz.pinned (.plain (OpenSpec.upto twinAlikeSpec)) twinAlikeUptoCard

/-- THE SECOND FORM's CARD OF 'milestonelaw20.TwinLabels'. -/
def twinLabelsUptoCard : Claim7 := { stood := { row := twinLabelsUptoRow, standIns := [], harness := (true, "f70ff0d977c1f295ba5b039e5852e576e9bf55aac063cf2ed9b8088339bc4929"), looks := true }, kinds := [], alts := [], laidByText := true, laidKinds := [.handle], laidTests := true, laidLooks := .later }
def TwinLabelsUptoCardSaid : Prop := Claim7.holds Tryz.pinned (.plain (OpenSpec.upto twinLabelsSpec)) twinLabelsUptoCard

/-- THE SECOND FORM's CARD OF 'milestonelaw20.TwinExact'. -/
def twinExactUptoCard : Claim7 := { stood := { row := twinExactUptoRow, standIns := [], harness := (true, "f70ff0d977c1f295ba5b039e5852e576e9bf55aac063cf2ed9b8088339bc4929"), looks := true }, kinds := [], alts := [], laidByText := true, laidKinds := [.handle], laidTests := true, laidLooks := .later }
def TwinExactUptoCardSaid : Prop := Claim7.holds Tryz.pinned (.plain (OpenSpec.upto twinExactSpec)) twinExactUptoCard

/-- THE SECOND FORM's CARD OF 'milestonelaw26.SiftErrors'. -/
def siftErrorsUptoCard : Claim7 := { stood := { row := siftErrorsUptoRow, standIns := [], harness := (true, "f70ff0d977c1f295ba5b039e5852e576e9bf55aac063cf2ed9b8088339bc4929"), looks := true }, kinds := [], alts := [], laidByText := true, laidKinds := [.handle], laidTests := true, laidLooks := .later }
def SiftErrorsUptoCardSaid : Prop := Claim7.holds Tryz.pinned (.plain (OpenSpec.upto siftErrorsSpec)) siftErrorsUptoCard

/-- THE SECOND FORM's CARD OF 'milestonelaw26.SiftBelow'. -/
def siftBelowUptoCard : Claim7 := { stood := { row := siftBelowUptoRow, standIns := [], harness := (true, "f70ff0d977c1f295ba5b039e5852e576e9bf55aac063cf2ed9b8088339bc4929"), looks := true }, kinds := [], alts := [], laidByText := true, laidKinds := [.handle], laidTests := true, laidLooks := .later }
def SiftBelowUptoCardSaid : Prop := Claim7.holds Tryz.pinned (.plain (OpenSpec.upto siftBelowSpec)) siftBelowUptoCard

/-- THE SECOND FORM's CARD OF 'milestonelaw26.SiftExact'. -/
def siftExactUptoCard : Claim7 := { stood := { row := siftExactUptoRow, standIns := [], harness := (true, "f70ff0d977c1f295ba5b039e5852e576e9bf55aac063cf2ed9b8088339bc4929"), looks := true }, kinds := [], alts := [], laidByText := true, laidKinds := [.handle], laidTests := true, laidLooks := .later }
def SiftExactUptoCardSaid : Prop := Claim7.holds Tryz.pinned (.plain (OpenSpec.upto siftExactSpec)) siftExactUptoCard
end Rows
end Go.Proofs.YtfdopodkngggfaaGreatDoor
