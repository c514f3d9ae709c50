/-
  DERIVED. GIVEN WITH THE SEED: THE CARDS: each row of YtpnmkakfejadbaaGreatDoorRows.lean that lists a variable, with what it lists TIED to the program's text (the seventh form; the later family's looks); each row that meets fmt, with fmt's text TOLD by the authors' own Lean function (tested against real Go, not proved from fmt's source: count such statements apart). THE CARD IS WHAT COUNTS. Prove the row's statement (the work); the ties are given (YtpnmkakfejadbaaGreatDoorTie.lean); close each card by the builder's one call (the guide's Derived/Test/ToyasCard.lean, 'card_holds'). Laid BY PROGRAM, IN A SANDBOX (cutbox-door.mjs). By AI agents, Wed Nov 11 2026. No macro, syntax, notation, axiom, sorry.
-/
import Derived.Test.YtpnmkakfejadbaaGreatDoorRows
import GoSem.ClaimSeven
namespace Go.Proofs.YtpnmkakfejadbaaGreatDoor
namespace Rows

/-- THE TIED CARD OF 'milestonelaw32.AnswerParts'. -/
def answerPartsCard : Claim7 := { stood := { row := answerPartsRow, standIns := [], harness := (true, "8597a68f66e132f7da09878bb1401272f43326b6bb44761938d8a861ecfb7262"), looks := true }, kinds := [], alts := [], laidByText := true, laidKinds := [.handle], laidTests := true, laidLooks := .later }
def AnswerPartsCardSaid : Prop := Claim7.holds Tryz.pinned (.plain (OpenSpec.ofChange answerPartsSpec)) answerPartsCard

/-- THE TIED CARD OF 'milestonelaw32.AnswerErrors'. -/
def answerErrorsCard : Claim7 := { stood := { row := answerErrorsRow, standIns := [], harness := (true, "8597a68f66e132f7da09878bb1401272f43326b6bb44761938d8a861ecfb7262"), looks := true }, kinds := [], alts := [], laidByText := true, laidKinds := [.handle], laidTests := true, laidLooks := .later }
def AnswerErrorsCardSaid : Prop := Claim7.holds Tryz.pinned (.plain (OpenSpec.ofChange answerErrorsSpec)) answerErrorsCard

/-- THE TIED CARD OF 'milestonelaw32.AnswerExact'. -/
def answerExactCard : Claim7 := { stood := { row := answerExactRow, standIns := [], harness := (true, "8597a68f66e132f7da09878bb1401272f43326b6bb44761938d8a861ecfb7262"), looks := true }, kinds := [], alts := [], laidByText := true, laidKinds := [.handle], laidTests := true, laidLooks := .later }
def AnswerExactCardSaid : Prop := Claim7.holds Tryz.pinned (.plain (OpenSpec.ofChange answerExactSpec)) answerExactCard

/-- THE TIED CARD OF 'milestonelaw32.AnswerOnce'. -/
def answerOnceCard : Claim7 := { stood := { row := answerOnceRow, standIns := [], harness := (true, "8597a68f66e132f7da09878bb1401272f43326b6bb44761938d8a861ecfb7262"), looks := true }, kinds := [], alts := [], laidByText := true, laidKinds := [.handle], laidTests := true, laidLooks := .later }
def AnswerOnceCardSaid : Prop := Claim7.holds Tryz.pinned (.plain (OpenSpec.ofChange answerOnceSpec)) answerOnceCard

/-- THE SECOND FORM's CARD OF 'milestonelaw32.AnswerParts'. -/
def answerPartsUptoCard : Claim7 := { stood := { row := answerPartsUptoRow, standIns := [], harness := (true, "8597a68f66e132f7da09878bb1401272f43326b6bb44761938d8a861ecfb7262"), looks := true }, kinds := [], alts := [], laidByText := true, laidKinds := [.handle], laidTests := true, laidLooks := .later }
def AnswerPartsUptoCardSaid : Prop := Claim7.holds Tryz.pinned (.plain (OpenSpec.upto answerPartsSpec)) answerPartsUptoCard

/-- THE SECOND FORM's CARD OF 'milestonelaw32.AnswerErrors'. -/
def answerErrorsUptoCard : Claim7 := { stood := { row := answerErrorsUptoRow, standIns := [], harness := (true, "8597a68f66e132f7da09878bb1401272f43326b6bb44761938d8a861ecfb7262"), looks := true }, kinds := [], alts := [], laidByText := true, laidKinds := [.handle], laidTests := true, laidLooks := .later }
def AnswerErrorsUptoCardSaid : Prop := Claim7.holds Tryz.pinned (.plain (OpenSpec.upto answerErrorsSpec)) answerErrorsUptoCard

/-- THE SECOND FORM's CARD OF 'milestonelaw32.AnswerExact'. -/
def answerExactUptoCard : Claim7 := { stood := { row := answerExactUptoRow, standIns := [], harness := (true, "8597a68f66e132f7da09878bb1401272f43326b6bb44761938d8a861ecfb7262"), looks := true }, kinds := [], alts := [], laidByText := true, laidKinds := [.handle], laidTests := true, laidLooks := .later }
def AnswerExactUptoCardSaid : Prop := Claim7.holds Tryz.pinned (.plain (OpenSpec.upto answerExactSpec)) answerExactUptoCard

/-- THE SECOND FORM's CARD OF 'milestonelaw32.AnswerOnce'. -/
def answerOnceUptoCard : Claim7 := { stood := { row := answerOnceUptoRow, standIns := [], harness := (true, "8597a68f66e132f7da09878bb1401272f43326b6bb44761938d8a861ecfb7262"), looks := true }, kinds := [], alts := [], laidByText := true, laidKinds := [.handle], laidTests := true, laidLooks := .later }
def AnswerOnceUptoCardSaid : Prop := Claim7.holds Tryz.pinned (.plain (OpenSpec.upto answerOnceSpec)) answerOnceUptoCard
end Rows
end Go.Proofs.YtpnmkakfejadbaaGreatDoor
