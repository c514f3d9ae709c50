/-
  DERIVED. GIVEN WITH THE SEED: THE CARDS: each row of YtdpmdpbhjgaocaaGreatDoorRows.lean that lists a variable, with what it lists TIED to the program's text (the seventh form; the later family's looks); each row that meets fmt, with fmt's text TOLD by the authors' own Lean function (tested against real Go, not proved from fmt's source: count such statements apart). THE CARD IS WHAT COUNTS. Prove the row's statement (the work); the ties are given (YtdpmdpbhjgaocaaGreatDoorTie.lean); close each card by the builder's one call (the guide's Derived/Test/ToyasCard.lean, 'card_holds'). Laid BY PROGRAM, IN A SANDBOX (cutbox-door.mjs). By AI agents, Wed Nov 11 2026. No macro, syntax, notation, axiom, sorry.
-/
import Derived.Test.YtdpmdpbhjgaocaaGreatDoorRows
import GoSem.ClaimSeven
namespace Go.Proofs.YtdpmdpbhjgaocaaGreatDoor
namespace Rows

/-- THE TIED CARD OF 'milestonelaw19.AltExact'. -/
def altExactCard : Claim7 := { stood := { row := altExactRow, standIns := [], harness := (true, "84df4f6b9998ccef859bb8facfc99620f5bafc175df298e01abf02e683a1a16e"), looks := true }, kinds := [], alts := [], laidByText := true, laidKinds := [.handle], laidTests := true, laidLooks := .later }
def AltExactCardSaid : Prop := Claim7.holds Tryz.pinned (.plain (OpenSpec.ofChange altExactSpec)) altExactCard

/-- THE TIED CARD OF 'milestonelaw19.AltNear'. -/
def altNearCard : Claim7 := { stood := { row := altNearRow, standIns := [], harness := (true, "84df4f6b9998ccef859bb8facfc99620f5bafc175df298e01abf02e683a1a16e"), looks := true }, kinds := [], alts := [], laidByText := true, laidKinds := [.handle], laidTests := true, laidLooks := .later }
def AltNearCardSaid : Prop := Claim7.holds Tryz.pinned (.plain (OpenSpec.ofChange altNearSpec)) altNearCard

/-- THE TIED CARD OF 'milestonelaw19.AltWrong'. -/
def altWrongCard : Claim7 := { stood := { row := altWrongRow, standIns := [], harness := (true, "84df4f6b9998ccef859bb8facfc99620f5bafc175df298e01abf02e683a1a16e"), looks := true }, kinds := [], alts := [], laidByText := true, laidKinds := [.handle], laidTests := true, laidLooks := .later }
def AltWrongCardSaid : Prop := Claim7.holds Tryz.pinned (.plain (OpenSpec.ofChange altWrongSpec)) altWrongCard

/-- THE TIED CARD OF 'milestonelaw19.AltFewer'. -/
def altFewerCard : Claim7 := { stood := { row := altFewerRow, standIns := [], harness := (true, "84df4f6b9998ccef859bb8facfc99620f5bafc175df298e01abf02e683a1a16e"), looks := true }, kinds := [], alts := [], laidByText := true, laidKinds := [.handle], laidTests := true, laidLooks := .later }
def AltFewerCardSaid : Prop := Claim7.holds Tryz.pinned (.plain (OpenSpec.ofChange altFewerSpec)) altFewerCard

/-- THE TIED CARD OF 'milestonelaw19.AltForged'. -/
def altForgedCard : Claim7 := { stood := { row := altForgedRow, standIns := [], harness := (true, "84df4f6b9998ccef859bb8facfc99620f5bafc175df298e01abf02e683a1a16e"), looks := true }, kinds := [], alts := [], laidByText := true, laidKinds := [.handle], laidTests := true, laidLooks := .later }
def AltForgedCardSaid : Prop := Claim7.holds Tryz.pinned (.plain (OpenSpec.ofChange altForgedSpec)) altForgedCard

/-- THE SECOND FORM's CARD OF 'milestonelaw19.AltExact'. -/
def altExactUptoCard : Claim7 := { stood := { row := altExactUptoRow, standIns := [], harness := (true, "84df4f6b9998ccef859bb8facfc99620f5bafc175df298e01abf02e683a1a16e"), looks := true }, kinds := [], alts := [], laidByText := true, laidKinds := [.handle], laidTests := true, laidLooks := .later }
def AltExactUptoCardSaid : Prop := Claim7.holds Tryz.pinned (.plain (OpenSpec.upto altExactSpec)) altExactUptoCard

/-- THE SECOND FORM's CARD OF 'milestonelaw19.AltNear'. -/
def altNearUptoCard : Claim7 := { stood := { row := altNearUptoRow, standIns := [], harness := (true, "84df4f6b9998ccef859bb8facfc99620f5bafc175df298e01abf02e683a1a16e"), looks := true }, kinds := [], alts := [], laidByText := true, laidKinds := [.handle], laidTests := true, laidLooks := .later }
def AltNearUptoCardSaid : Prop := Claim7.holds Tryz.pinned (.plain (OpenSpec.upto altNearSpec)) altNearUptoCard

/-- THE SECOND FORM's CARD OF 'milestonelaw19.AltWrong'. -/
def altWrongUptoCard : Claim7 := { stood := { row := altWrongUptoRow, standIns := [], harness := (true, "84df4f6b9998ccef859bb8facfc99620f5bafc175df298e01abf02e683a1a16e"), looks := true }, kinds := [], alts := [], laidByText := true, laidKinds := [.handle], laidTests := true, laidLooks := .later }
def AltWrongUptoCardSaid : Prop := Claim7.holds Tryz.pinned (.plain (OpenSpec.upto altWrongSpec)) altWrongUptoCard

/-- THE SECOND FORM's CARD OF 'milestonelaw19.AltFewer'. -/
def altFewerUptoCard : Claim7 := { stood := { row := altFewerUptoRow, standIns := [], harness := (true, "84df4f6b9998ccef859bb8facfc99620f5bafc175df298e01abf02e683a1a16e"), looks := true }, kinds := [], alts := [], laidByText := true, laidKinds := [.handle], laidTests := true, laidLooks := .later }
def AltFewerUptoCardSaid : Prop := Claim7.holds Tryz.pinned (.plain (OpenSpec.upto altFewerSpec)) altFewerUptoCard

/-- THE SECOND FORM's CARD OF 'milestonelaw19.AltForged'. -/
def altForgedUptoCard : Claim7 := { stood := { row := altForgedUptoRow, standIns := [], harness := (true, "84df4f6b9998ccef859bb8facfc99620f5bafc175df298e01abf02e683a1a16e"), looks := true }, kinds := [], alts := [], laidByText := true, laidKinds := [.handle], laidTests := true, laidLooks := .later }
def AltForgedUptoCardSaid : Prop := Claim7.holds Tryz.pinned (.plain (OpenSpec.upto altForgedSpec)) altForgedUptoCard
end Rows
end Go.Proofs.YtdpmdpbhjgaocaaGreatDoor
