/-
  DERIVED. GIVEN WITH THE SEED: THE CARDS: each row of YthkppmgcldlmaaaGreatDoorRows.lean that lists a variable, with what it lists TIED to the program's text (the seventh form; the later family's looks); each row that meets fmt, with fmt's text TOLD by the authors' own Lean function (tested against real Go, not proved from fmt's source: count such statements apart). THE CARD IS WHAT COUNTS. Prove the row's statement (the work); the ties are given (YthkppmgcldlmaaaGreatDoorTie.lean); close each card by the builder's one call (the guide's Derived/Test/ToyasCard.lean, 'card_holds'). Laid BY PROGRAM, IN A SANDBOX (cutbox-door.mjs). By AI agents, Wed Nov 11 2026. No macro, syntax, notation, axiom, sorry.
-/
import Derived.Test.YthkppmgcldlmaaaGreatDoorRows
import GoSem.ClaimSeven
namespace Go.Proofs.YthkppmgcldlmaaaGreatDoor
namespace Rows

/-- THE TIED CARD OF 'milestonelaw18.BoundKnown'. -/
def boundKnownCard : Claim7 := { stood := { row := boundKnownRow, standIns := [], harness := (true, "ad2be5b3b973ba61319eba5bdc1b2486ff43a4c8a74feab25f14c5f56e588105"), looks := true }, kinds := [], alts := [], laidByText := true, laidKinds := [.handle], laidTests := true, laidLooks := .later }
def BoundKnownCardSaid : Prop := Claim7.holds Tryz.pinned (.plain (OpenSpec.ofChange boundKnownSpec)) boundKnownCard

/-- THE TIED CARD OF 'milestonelaw26.SiftKnown'. -/
def siftKnownCard : Claim7 := { stood := { row := siftKnownRow, standIns := [], harness := (true, "ad2be5b3b973ba61319eba5bdc1b2486ff43a4c8a74feab25f14c5f56e588105"), looks := true }, kinds := [], alts := [], laidByText := true, laidKinds := [.handle], laidTests := true, laidLooks := .later }
def SiftKnownCardSaid : Prop := Claim7.holds Tryz.pinned (.plain (OpenSpec.ofChange siftKnownSpec)) siftKnownCard

/-- THE SECOND FORM's CARD OF 'milestonelaw18.BoundKnown'. -/
def boundKnownUptoCard : Claim7 := { stood := { row := boundKnownUptoRow, standIns := [], harness := (true, "ad2be5b3b973ba61319eba5bdc1b2486ff43a4c8a74feab25f14c5f56e588105"), looks := true }, kinds := [], alts := [], laidByText := true, laidKinds := [.handle], laidTests := true, laidLooks := .later }
def BoundKnownUptoCardSaid : Prop := Claim7.holds Tryz.pinned (.plain (OpenSpec.upto boundKnownSpec)) boundKnownUptoCard

/-- THE SECOND FORM's CARD OF 'milestonelaw26.SiftKnown'. -/
def siftKnownUptoCard : Claim7 := { stood := { row := siftKnownUptoRow, standIns := [], harness := (true, "ad2be5b3b973ba61319eba5bdc1b2486ff43a4c8a74feab25f14c5f56e588105"), looks := true }, kinds := [], alts := [], laidByText := true, laidKinds := [.handle], laidTests := true, laidLooks := .later }
def SiftKnownUptoCardSaid : Prop := Claim7.holds Tryz.pinned (.plain (OpenSpec.upto siftKnownSpec)) siftKnownUptoCard
end Rows
end Go.Proofs.YthkppmgcldlmaaaGreatDoor
