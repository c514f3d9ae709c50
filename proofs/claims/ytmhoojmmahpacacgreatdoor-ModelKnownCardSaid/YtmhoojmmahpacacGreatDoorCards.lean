/-
  DERIVED. GIVEN WITH THE SEED: THE CARDS: each row of YtmhoojmmahpacacGreatDoorRows.lean that lists a variable, with what it lists TIED to the program's text (the seventh form; the later family's looks); each row that meets fmt, with fmt's text TOLD by the authors' own Lean function (tested against real Go, not proved from fmt's source: count such statements apart). THE CARD IS WHAT COUNTS. Prove the row's statement (the work); the ties are given (YtmhoojmmahpacacGreatDoorTie.lean); close each card by the builder's one call (the guide's Derived/Test/ToyasCard.lean, 'card_holds'). Laid BY PROGRAM, IN A SANDBOX (cutbox-door.mjs). By AI agents, Wed Nov 11 2026. No macro, syntax, notation, axiom, sorry.
-/
import Derived.Test.YtmhoojmmahpacacGreatDoorRows
import GoSem.ClaimSeven
namespace Go.Proofs.YtmhoojmmahpacacGreatDoor
namespace Rows

/-- THE TIED CARD OF 'milestonelaw34.ModelKnown'. -/
def modelKnownCard : Claim7 := { stood := { row := modelKnownRow, standIns := [], harness := (true, "59683082333fb4c6fbc6969b525e9a35ec420cd5925c3f300d6256ffb59cae2a"), looks := true }, kinds := [], alts := [], laidByText := true, laidKinds := [.handle], laidTests := true, laidLooks := .later }
def ModelKnownCardSaid : Prop := Claim7.holds Tryz.pinned (.plain (OpenSpec.ofChange modelKnownSpec)) modelKnownCard

/-- THE SECOND FORM's CARD OF 'milestonelaw34.ModelKnown'. -/
def modelKnownUptoCard : Claim7 := { stood := { row := modelKnownUptoRow, standIns := [], harness := (true, "59683082333fb4c6fbc6969b525e9a35ec420cd5925c3f300d6256ffb59cae2a"), looks := true }, kinds := [], alts := [], laidByText := true, laidKinds := [.handle], laidTests := true, laidLooks := .later }
def ModelKnownUptoCardSaid : Prop := Claim7.holds Tryz.pinned (.plain (OpenSpec.upto modelKnownSpec)) modelKnownUptoCard
end Rows
end Go.Proofs.YtmhoojmmahpacacGreatDoor
