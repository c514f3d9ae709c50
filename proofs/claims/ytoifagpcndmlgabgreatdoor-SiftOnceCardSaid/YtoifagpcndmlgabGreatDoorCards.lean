/-
  DERIVED. GIVEN WITH THE SEED: THE CARDS: each row of YtoifagpcndmlgabGreatDoorRows.lean that lists a variable, with what it lists TIED to the program's text (the seventh form; the later family's looks); each row that meets fmt, with fmt's text TOLD by the authors' own Lean function (tested against real Go, not proved from fmt's source: count such statements apart). THE CARD IS WHAT COUNTS. Prove the row's statement (the work); the ties are given (YtoifagpcndmlgabGreatDoorTie.lean); close each card by the builder's one call (the guide's Derived/Test/ToyasCard.lean, 'card_holds'). Laid BY PROGRAM, IN A SANDBOX (cutbox-door.mjs). By AI agents, Wed Nov 11 2026. No macro, syntax, notation, axiom, sorry.
-/
import Derived.Test.YtoifagpcndmlgabGreatDoorRows
import GoSem.ClaimSeven
namespace Go.Proofs.YtoifagpcndmlgabGreatDoor
namespace Rows

/-- THE TIED CARD OF 'milestonelaw26.SiftOnce'. -/
def siftOnceCard : Claim7 := { stood := { row := siftOnceRow, standIns := [], harness := (true, "63abd9cf1432b79474b918ec87dcd631df7065d93a530d504795c32cbda78f14"), looks := true }, kinds := [], alts := [], laidByText := true, laidKinds := [.handle], laidTests := true, laidLooks := .later }
def SiftOnceCardSaid : Prop := Claim7.holds Tryz.pinned (.plain (OpenSpec.ofChange siftOnceSpec)) siftOnceCard

/-- THE SECOND FORM's CARD OF 'milestonelaw26.SiftOnce'. -/
def siftOnceUptoCard : Claim7 := { stood := { row := siftOnceUptoRow, standIns := [], harness := (true, "63abd9cf1432b79474b918ec87dcd631df7065d93a530d504795c32cbda78f14"), looks := true }, kinds := [], alts := [], laidByText := true, laidKinds := [.handle], laidTests := true, laidLooks := .later }
def SiftOnceUptoCardSaid : Prop := Claim7.holds Tryz.pinned (.plain (OpenSpec.upto siftOnceSpec)) siftOnceUptoCard
end Rows
end Go.Proofs.YtoifagpcndmlgabGreatDoor
