/-
  DERIVED. GIVEN WITH THE SEED: THE CARDS: each row of YtdicllcgofpggaaGreatDoorRows.lean that lists a variable, with what it lists TIED to the program's text (the seventh form; the later family's looks); each row that meets fmt, with fmt's text TOLD by the authors' own Lean function (tested against real Go, not proved from fmt's source: count such statements apart). THE CARD IS WHAT COUNTS. Prove the row's statement (the work); the ties are given (YtdicllcgofpggaaGreatDoorTie.lean); close each card by the builder's one call (the guide's Derived/Test/ToyasCard.lean, 'card_holds'). Laid BY PROGRAM, IN A SANDBOX (cutbox-door.mjs). By AI agents, Wed Nov 11 2026. No macro, syntax, notation, axiom, sorry.
-/
import Derived.Test.YtdicllcgofpggaaGreatDoorRows
import GoSem.ClaimSeven
namespace Go.Proofs.YtdicllcgofpggaaGreatDoor
namespace Rows

/-- THE TIED CARD OF 'milestonelaw28.ImageTells'. -/
def imageTellsCard : Claim7 := { stood := { row := imageTellsRow, standIns := [], harness := (true, "f379dcd91bed90a41b08930b254264f25fe9fd2219242d79d1c5e51091742946"), looks := true }, kinds := [], alts := [], laidByText := true, laidKinds := [.handle], laidTests := true, laidLooks := .later }
def ImageTellsCardSaid : Prop := Claim7.holds Tryz.pinned (.plain (OpenSpec.ofChange imageTellsSpec)) imageTellsCard

/-- THE TIED CARD OF 'milestonelaw28.ImageForged'. -/
def imageForgedCard : Claim7 := { stood := { row := imageForgedRow, standIns := [], harness := (true, "f379dcd91bed90a41b08930b254264f25fe9fd2219242d79d1c5e51091742946"), looks := true }, kinds := [], alts := [], laidByText := true, laidKinds := [.handle], laidTests := true, laidLooks := .later }
def ImageForgedCardSaid : Prop := Claim7.holds Tryz.pinned (.plain (OpenSpec.ofChange imageForgedSpec)) imageForgedCard

/-- THE TIED CARD OF 'milestonelaw28.ImageBack'. -/
def imageBackCard : Claim7 := { stood := { row := imageBackRow, standIns := [], harness := (true, "f379dcd91bed90a41b08930b254264f25fe9fd2219242d79d1c5e51091742946"), looks := true }, kinds := [], alts := [], laidByText := true, laidKinds := [.handle], laidTests := true, laidLooks := .later }
def ImageBackCardSaid : Prop := Claim7.holds Tryz.pinned (.plain (OpenSpec.ofChange imageBackSpec)) imageBackCard

/-- THE TIED CARD OF 'milestonelaw28.ImageBurst'. -/
def imageBurstCard : Claim7 := { stood := { row := imageBurstRow, standIns := [], harness := (true, "f379dcd91bed90a41b08930b254264f25fe9fd2219242d79d1c5e51091742946"), looks := true }, kinds := [], alts := [], laidByText := true, laidKinds := [.handle], laidTests := true, laidLooks := .later }
def ImageBurstCardSaid : Prop := Claim7.holds Tryz.pinned (.plain (OpenSpec.ofChange imageBurstSpec)) imageBurstCard

/-- THE SECOND FORM's CARD OF 'milestonelaw28.ImageTells'. -/
def imageTellsUptoCard : Claim7 := { stood := { row := imageTellsUptoRow, standIns := [], harness := (true, "f379dcd91bed90a41b08930b254264f25fe9fd2219242d79d1c5e51091742946"), looks := true }, kinds := [], alts := [], laidByText := true, laidKinds := [.handle], laidTests := true, laidLooks := .later }
def ImageTellsUptoCardSaid : Prop := Claim7.holds Tryz.pinned (.plain (OpenSpec.upto imageTellsSpec)) imageTellsUptoCard

/-- THE SECOND FORM's CARD OF 'milestonelaw28.ImageForged'. -/
def imageForgedUptoCard : Claim7 := { stood := { row := imageForgedUptoRow, standIns := [], harness := (true, "f379dcd91bed90a41b08930b254264f25fe9fd2219242d79d1c5e51091742946"), looks := true }, kinds := [], alts := [], laidByText := true, laidKinds := [.handle], laidTests := true, laidLooks := .later }
def ImageForgedUptoCardSaid : Prop := Claim7.holds Tryz.pinned (.plain (OpenSpec.upto imageForgedSpec)) imageForgedUptoCard

/-- THE SECOND FORM's CARD OF 'milestonelaw28.ImageBack'. -/
def imageBackUptoCard : Claim7 := { stood := { row := imageBackUptoRow, standIns := [], harness := (true, "f379dcd91bed90a41b08930b254264f25fe9fd2219242d79d1c5e51091742946"), looks := true }, kinds := [], alts := [], laidByText := true, laidKinds := [.handle], laidTests := true, laidLooks := .later }
def ImageBackUptoCardSaid : Prop := Claim7.holds Tryz.pinned (.plain (OpenSpec.upto imageBackSpec)) imageBackUptoCard

/-- THE SECOND FORM's CARD OF 'milestonelaw28.ImageBurst'. -/
def imageBurstUptoCard : Claim7 := { stood := { row := imageBurstUptoRow, standIns := [], harness := (true, "f379dcd91bed90a41b08930b254264f25fe9fd2219242d79d1c5e51091742946"), looks := true }, kinds := [], alts := [], laidByText := true, laidKinds := [.handle], laidTests := true, laidLooks := .later }
def ImageBurstUptoCardSaid : Prop := Claim7.holds Tryz.pinned (.plain (OpenSpec.upto imageBurstSpec)) imageBurstUptoCard
end Rows
end Go.Proofs.YtdicllcgofpggaaGreatDoor
