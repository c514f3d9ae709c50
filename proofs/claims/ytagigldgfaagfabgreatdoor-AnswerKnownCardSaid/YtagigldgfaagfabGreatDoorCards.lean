/-
  DERIVED. GIVEN WITH THE SEED: THE CARDS: each row of YtagigldgfaagfabGreatDoorRows.lean that lists a variable, with what it lists TIED to the program's text (the seventh form; the later family's looks); each row that meets fmt, with fmt's text TOLD by the authors' own Lean function (tested against real Go, not proved from fmt's source: count such statements apart). THE CARD IS WHAT COUNTS. Prove the row's statement (the work); the ties are given (YtagigldgfaagfabGreatDoorTie.lean); close each card by the builder's one call (the guide's Derived/Test/ToyasCard.lean, 'card_holds'). Laid BY PROGRAM, IN A SANDBOX (cutbox-door.mjs). By AI agents, Wed Nov 11 2026. No macro, syntax, notation, axiom, sorry.
-/
import Derived.Test.YtagigldgfaagfabGreatDoorRows
import GoSem.ClaimSeven
namespace Go.Proofs.YtagigldgfaagfabGreatDoor
namespace Rows

/-- THE TIED CARD OF 'milestonelaw32.AnswerKnown'. -/
def answerKnownCard : Claim7 := { stood := { row := answerKnownRow, standIns := [], harness := (true, "ace8617b96678b8a3fc37176bce06d443bb0923ae8c4ce413d86139c570ae576"), looks := true }, kinds := [], alts := [], laidByText := true, laidKinds := [.handle], laidTests := true, laidLooks := .later }
def AnswerKnownCardSaid : Prop := Claim7.holds Tryz.pinned (.plain (OpenSpec.ofChange answerKnownSpec)) answerKnownCard

/-- THE SECOND FORM's CARD OF 'milestonelaw32.AnswerKnown'. -/
def answerKnownUptoCard : Claim7 := { stood := { row := answerKnownUptoRow, standIns := [], harness := (true, "ace8617b96678b8a3fc37176bce06d443bb0923ae8c4ce413d86139c570ae576"), looks := true }, kinds := [], alts := [], laidByText := true, laidKinds := [.handle], laidTests := true, laidLooks := .later }
def AnswerKnownUptoCardSaid : Prop := Claim7.holds Tryz.pinned (.plain (OpenSpec.upto answerKnownSpec)) answerKnownUptoCard
end Rows
end Go.Proofs.YtagigldgfaagfabGreatDoor
