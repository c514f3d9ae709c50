/-
  DERIVED. GIVEN WITH THE SEED: THE CARDS: each row of YtnandelhggbchaaGreatDoorRows.lean that lists a variable, with what it lists TIED to the program's text (the seventh form; the later family's looks); each row that meets fmt, with fmt's text TOLD by the authors' own Lean function (tested against real Go, not proved from fmt's source: count such statements apart). THE CARD IS WHAT COUNTS. Prove the row's statement (the work); the ties are given (YtnandelhggbchaaGreatDoorTie.lean); close each card by the builder's one call (the guide's Derived/Test/ToyasCard.lean, 'card_holds'). Laid BY PROGRAM, IN A SANDBOX (cutbox-door.mjs). By AI agents, Wed Nov 11 2026. No macro, syntax, notation, axiom, sorry.
-/
import Derived.Test.YtnandelhggbchaaGreatDoorRows
import GoSem.ClaimSeven
namespace Go.Proofs.YtnandelhggbchaaGreatDoor
namespace Rows

/-- THE TIED CARD OF 'milestonelaw20.TwinErrors'. -/
def twinErrorsCard : Claim7 := { stood := { row := twinErrorsRow, standIns := [], harness := (true, "75deb3cc945258329545446a88002873e6279dce74ed0594d080a5d5bb3ff84e"), looks := true }, kinds := [], alts := [], laidByText := true, laidKinds := [.handle], laidTests := true, laidLooks := .later }
def TwinErrorsCardSaid : Prop := Claim7.holds Tryz.pinned (.plain (OpenSpec.ofChange twinErrorsSpec)) twinErrorsCard

/-- THE TIED CARD OF 'milestonelaw19.AltForged'. -/
def altForgedCard : Claim7 := { stood := { row := altForgedRow, standIns := [], harness := (true, "75deb3cc945258329545446a88002873e6279dce74ed0594d080a5d5bb3ff84e"), looks := true }, kinds := [], alts := [], laidByText := true, laidKinds := [.handle], laidTests := true, laidLooks := .later }
def AltForgedCardSaid : Prop := Claim7.holds Tryz.pinned (.plain (OpenSpec.ofChange altForgedSpec)) altForgedCard

/-- THE TIED CARD OF 'milestonelaw20.TwinOnce'. -/
def twinOnceCard : Claim7 := { stood := { row := twinOnceRow, standIns := [], harness := (true, "75deb3cc945258329545446a88002873e6279dce74ed0594d080a5d5bb3ff84e"), looks := true }, kinds := [], alts := [], laidByText := true, laidKinds := [.handle], laidTests := true, laidLooks := .later }
def TwinOnceCardSaid : Prop := Claim7.holds Tryz.pinned (.plain (OpenSpec.ofChange twinOnceSpec)) twinOnceCard

/-- THE TIED CARD OF 'milestonelaw26.SiftErrors'. -/
def siftErrorsCard : Claim7 := { stood := { row := siftErrorsRow, standIns := [], harness := (true, "75deb3cc945258329545446a88002873e6279dce74ed0594d080a5d5bb3ff84e"), looks := true }, kinds := [], alts := [], laidByText := true, laidKinds := [.handle], laidTests := true, laidLooks := .later }
def SiftErrorsCardSaid : Prop := Claim7.holds Tryz.pinned (.plain (OpenSpec.ofChange siftErrorsSpec)) siftErrorsCard

/-- THE TIED CARD OF 'milestonelaw26.SiftOnce'. -/
def siftOnceCard : Claim7 := { stood := { row := siftOnceRow, standIns := [], harness := (true, "75deb3cc945258329545446a88002873e6279dce74ed0594d080a5d5bb3ff84e"), looks := true }, kinds := [], alts := [], laidByText := true, laidKinds := [.handle], laidTests := true, laidLooks := .later }
def SiftOnceCardSaid : Prop := Claim7.holds Tryz.pinned (.plain (OpenSpec.ofChange siftOnceSpec)) siftOnceCard

/-- THE SECOND FORM's CARD OF 'milestonelaw20.TwinErrors'. -/
def twinErrorsUptoCard : Claim7 := { stood := { row := twinErrorsUptoRow, standIns := [], harness := (true, "75deb3cc945258329545446a88002873e6279dce74ed0594d080a5d5bb3ff84e"), looks := true }, kinds := [], alts := [], laidByText := true, laidKinds := [.handle], laidTests := true, laidLooks := .later }
def TwinErrorsUptoCardSaid : Prop := Claim7.holds Tryz.pinned (.plain (OpenSpec.upto twinErrorsSpec)) twinErrorsUptoCard

/-- THE SECOND FORM's CARD OF 'milestonelaw19.AltForged'. -/
def altForgedUptoCard : Claim7 := { stood := { row := altForgedUptoRow, standIns := [], harness := (true, "75deb3cc945258329545446a88002873e6279dce74ed0594d080a5d5bb3ff84e"), looks := true }, kinds := [], alts := [], laidByText := true, laidKinds := [.handle], laidTests := true, laidLooks := .later }
def AltForgedUptoCardSaid : Prop := Claim7.holds Tryz.pinned (.plain (OpenSpec.upto altForgedSpec)) altForgedUptoCard

/-- THE SECOND FORM's CARD OF 'milestonelaw20.TwinOnce'. -/
def twinOnceUptoCard : Claim7 := { stood := { row := twinOnceUptoRow, standIns := [], harness := (true, "75deb3cc945258329545446a88002873e6279dce74ed0594d080a5d5bb3ff84e"), looks := true }, kinds := [], alts := [], laidByText := true, laidKinds := [.handle], laidTests := true, laidLooks := .later }
def TwinOnceUptoCardSaid : Prop := Claim7.holds Tryz.pinned (.plain (OpenSpec.upto twinOnceSpec)) twinOnceUptoCard

/-- THE SECOND FORM's CARD OF 'milestonelaw26.SiftErrors'. -/
def siftErrorsUptoCard : Claim7 := { stood := { row := siftErrorsUptoRow, standIns := [], harness := (true, "75deb3cc945258329545446a88002873e6279dce74ed0594d080a5d5bb3ff84e"), looks := true }, kinds := [], alts := [], laidByText := true, laidKinds := [.handle], laidTests := true, laidLooks := .later }
def SiftErrorsUptoCardSaid : Prop := Claim7.holds Tryz.pinned (.plain (OpenSpec.upto siftErrorsSpec)) siftErrorsUptoCard

/-- THE SECOND FORM's CARD OF 'milestonelaw26.SiftOnce'. -/
def siftOnceUptoCard : Claim7 := { stood := { row := siftOnceUptoRow, standIns := [], harness := (true, "75deb3cc945258329545446a88002873e6279dce74ed0594d080a5d5bb3ff84e"), looks := true }, kinds := [], alts := [], laidByText := true, laidKinds := [.handle], laidTests := true, laidLooks := .later }
def SiftOnceUptoCardSaid : Prop := Claim7.holds Tryz.pinned (.plain (OpenSpec.upto siftOnceSpec)) siftOnceUptoCard
end Rows
end Go.Proofs.YtnandelhggbchaaGreatDoor
