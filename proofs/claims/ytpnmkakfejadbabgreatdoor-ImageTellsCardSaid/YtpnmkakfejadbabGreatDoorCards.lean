/-
  DERIVED. GIVEN WITH THE SEED: THE CARDS: each row of YtpnmkakfejadbabGreatDoorRows.lean that lists a variable, with what it lists TIED to the program's text (the seventh form; the later family's looks); each row that meets fmt, with fmt's text TOLD by the authors' own Lean function (tested against real Go, not proved from fmt's source: count such statements apart). THE CARD IS WHAT COUNTS. Prove the row's statement (the work); the ties are given (YtpnmkakfejadbabGreatDoorTie.lean); close each card by the builder's one call (the guide's Derived/Test/ToyasCard.lean, 'card_holds'). Laid BY PROGRAM, IN A SANDBOX (cutbox-door.mjs). By AI agents, Wed Nov 11 2026. No macro, syntax, notation, axiom, sorry.
-/
import Derived.Test.YtpnmkakfejadbabGreatDoorRows
import GoSem.ClaimSeven
namespace Go.Proofs.YtpnmkakfejadbabGreatDoor
namespace Rows

/-- THE TIED CARD OF 'milestonelaw28.ImageTells'. -/
def imageTellsCard : Claim7 := { stood := { row := imageTellsRow, standIns := [], harness := (true, "83ffefed58777e849901b96257cccff6f1b12cdbee1ec8a20ad4a0943ce60bda"), looks := true }, kinds := [], alts := [], laidByText := true, laidKinds := [.handle], laidTests := true, laidLooks := .later }
def ImageTellsCardSaid : Prop := Claim7.holds Tryz.pinned (.plain (OpenSpec.ofChange imageTellsSpec)) imageTellsCard

/-- THE TIED CARD OF 'milestonelaw28.ImageForged'. -/
def imageForgedCard : Claim7 := { stood := { row := imageForgedRow, standIns := [], harness := (true, "83ffefed58777e849901b96257cccff6f1b12cdbee1ec8a20ad4a0943ce60bda"), looks := true }, kinds := [], alts := [], laidByText := true, laidKinds := [.handle], laidTests := true, laidLooks := .later }
def ImageForgedCardSaid : Prop := Claim7.holds Tryz.pinned (.plain (OpenSpec.ofChange imageForgedSpec)) imageForgedCard

/-- THE SECOND FORM's CARD OF 'milestonelaw28.ImageTells'. -/
def imageTellsUptoCard : Claim7 := { stood := { row := imageTellsUptoRow, standIns := [], harness := (true, "83ffefed58777e849901b96257cccff6f1b12cdbee1ec8a20ad4a0943ce60bda"), looks := true }, kinds := [], alts := [], laidByText := true, laidKinds := [.handle], laidTests := true, laidLooks := .later }
def ImageTellsUptoCardSaid : Prop := Claim7.holds Tryz.pinned (.plain (OpenSpec.upto imageTellsSpec)) imageTellsUptoCard

/-- THE SECOND FORM's CARD OF 'milestonelaw28.ImageForged'. -/
def imageForgedUptoCard : Claim7 := { stood := { row := imageForgedUptoRow, standIns := [], harness := (true, "83ffefed58777e849901b96257cccff6f1b12cdbee1ec8a20ad4a0943ce60bda"), looks := true }, kinds := [], alts := [], laidByText := true, laidKinds := [.handle], laidTests := true, laidLooks := .later }
def ImageForgedUptoCardSaid : Prop := Claim7.holds Tryz.pinned (.plain (OpenSpec.upto imageForgedSpec)) imageForgedUptoCard
end Rows
end Go.Proofs.YtpnmkakfejadbabGreatDoor
