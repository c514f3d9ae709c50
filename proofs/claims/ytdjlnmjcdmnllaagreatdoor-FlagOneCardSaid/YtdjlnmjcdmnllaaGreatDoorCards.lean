/-
  DERIVED. GIVEN WITH THE SEED: THE CARDS: each row of YtdjlnmjcdmnllaaGreatDoorRows.lean that lists a variable, with what it lists TIED to the program's text (the seventh form; the later family's looks); each row that meets fmt, with fmt's text TOLD by the authors' own Lean function (tested against real Go, not proved from fmt's source: count such statements apart). THE CARD IS WHAT COUNTS. Prove the row's statement (the work); the ties are given (YtdjlnmjcdmnllaaGreatDoorTie.lean); close each card by the builder's one call (the guide's Derived/Test/ToyasCard.lean, 'card_holds'). Laid BY PROGRAM, IN A SANDBOX (cutbox-door.mjs). By AI agents, Wed Nov 11 2026. No macro, syntax, notation, axiom, sorry.
-/
import Derived.Test.YtdjlnmjcdmnllaaGreatDoorRows
import GoSem.ClaimSeven
namespace Go.Proofs.YtdjlnmjcdmnllaaGreatDoor
namespace Rows

/-- THE TIED CARD OF 'milestonelaw25.FlagTells'. -/
def flagTellsCard : Claim7 := { stood := { row := flagTellsRow, standIns := [], harness := (true, "bf533585f1ea3d891b215e56b7731b0cf9d66652c26f48bad8066fe8cbdc9b4b"), looks := true }, kinds := [], alts := [], laidByText := true, laidKinds := [.handle], laidTests := true, laidLooks := .later }
def FlagTellsCardSaid : Prop := Claim7.holds Tryz.pinned (.plain (OpenSpec.ofChange flagTellsSpec)) flagTellsCard

/-- THE TIED CARD OF 'milestonelaw25.FlagOne'. -/
def flagOneCard : Claim7 := { stood := { row := flagOneRow, standIns := [], harness := (true, "bf533585f1ea3d891b215e56b7731b0cf9d66652c26f48bad8066fe8cbdc9b4b"), looks := true }, kinds := [], alts := [], laidByText := true, laidKinds := [.handle], laidTests := true, laidLooks := .later }
def FlagOneCardSaid : Prop := Claim7.holds Tryz.pinned (.plain (OpenSpec.ofChange flagOneSpec)) flagOneCard

/-- THE TIED CARD OF 'milestonelaw25.FlagKeeps'. -/
def flagKeepsCard : Claim7 := { stood := { row := flagKeepsRow, standIns := [], harness := (true, "bf533585f1ea3d891b215e56b7731b0cf9d66652c26f48bad8066fe8cbdc9b4b"), looks := true }, kinds := [], alts := [], laidByText := true, laidKinds := [.handle], laidTests := true, laidLooks := .later }
def FlagKeepsCardSaid : Prop := Claim7.holds Tryz.pinned (.plain (OpenSpec.ofChange flagKeepsSpec)) flagKeepsCard

/-- THE TIED CARD OF 'milestonelaw20.TwinErrors'. -/
def twinErrorsCard : Claim7 := { stood := { row := twinErrorsRow, standIns := [], harness := (true, "bf533585f1ea3d891b215e56b7731b0cf9d66652c26f48bad8066fe8cbdc9b4b"), looks := true }, kinds := [], alts := [], laidByText := true, laidKinds := [.handle], laidTests := true, laidLooks := .later }
def TwinErrorsCardSaid : Prop := Claim7.holds Tryz.pinned (.plain (OpenSpec.ofChange twinErrorsSpec)) twinErrorsCard

/-- THE TIED CARD OF 'milestonelaw20.TwinAlike'. -/
def twinAlikeCard : Claim7 := { stood := { row := twinAlikeRow, standIns := [], harness := (true, "bf533585f1ea3d891b215e56b7731b0cf9d66652c26f48bad8066fe8cbdc9b4b"), looks := true }, kinds := [], alts := [], laidByText := true, laidKinds := [.handle], laidTests := true, laidLooks := .later }
def TwinAlikeCardSaid : Prop := Claim7.holds Tryz.pinned (.plain (OpenSpec.ofChange twinAlikeSpec)) twinAlikeCard

/-- THE TIED CARD OF 'milestonelaw20.TwinLabels'. -/
def twinLabelsCard : Claim7 := { stood := { row := twinLabelsRow, standIns := [], harness := (true, "bf533585f1ea3d891b215e56b7731b0cf9d66652c26f48bad8066fe8cbdc9b4b"), looks := true }, kinds := [], alts := [], laidByText := true, laidKinds := [.handle], laidTests := true, laidLooks := .later }
def TwinLabelsCardSaid : Prop := Claim7.holds Tryz.pinned (.plain (OpenSpec.ofChange twinLabelsSpec)) twinLabelsCard

/-- THE TIED CARD OF 'milestonelaw20.TwinExact'. -/
def twinExactCard : Claim7 := { stood := { row := twinExactRow, standIns := [], harness := (true, "bf533585f1ea3d891b215e56b7731b0cf9d66652c26f48bad8066fe8cbdc9b4b"), looks := true }, kinds := [], alts := [], laidByText := true, laidKinds := [.handle], laidTests := true, laidLooks := .later }
def TwinExactCardSaid : Prop := Claim7.holds Tryz.pinned (.plain (OpenSpec.ofChange twinExactSpec)) twinExactCard

/-- THE TIED CARD OF 'milestonelaw20.TwinOnce'. -/
def twinOnceCard : Claim7 := { stood := { row := twinOnceRow, standIns := [], harness := (true, "bf533585f1ea3d891b215e56b7731b0cf9d66652c26f48bad8066fe8cbdc9b4b"), looks := true }, kinds := [], alts := [], laidByText := true, laidKinds := [.handle], laidTests := true, laidLooks := .later }
def TwinOnceCardSaid : Prop := Claim7.holds Tryz.pinned (.plain (OpenSpec.ofChange twinOnceSpec)) twinOnceCard

/-- THE TIED CARD OF 'milestonelaw19.AltForged'. -/
def altForgedCard : Claim7 := { stood := { row := altForgedRow, standIns := [], harness := (true, "bf533585f1ea3d891b215e56b7731b0cf9d66652c26f48bad8066fe8cbdc9b4b"), looks := true }, kinds := [], alts := [], laidByText := true, laidKinds := [.handle], laidTests := true, laidLooks := .later }
def AltForgedCardSaid : Prop := Claim7.holds Tryz.pinned (.plain (OpenSpec.ofChange altForgedSpec)) altForgedCard

/-- THE SECOND FORM's CARD OF 'milestonelaw25.FlagTells'. -/
def flagTellsUptoCard : Claim7 := { stood := { row := flagTellsUptoRow, standIns := [], harness := (true, "bf533585f1ea3d891b215e56b7731b0cf9d66652c26f48bad8066fe8cbdc9b4b"), looks := true }, kinds := [], alts := [], laidByText := true, laidKinds := [.handle], laidTests := true, laidLooks := .later }
def FlagTellsUptoCardSaid : Prop := Claim7.holds Tryz.pinned (.plain (OpenSpec.upto flagTellsSpec)) flagTellsUptoCard

/-- THE SECOND FORM's CARD OF 'milestonelaw25.FlagOne'. -/
def flagOneUptoCard : Claim7 := { stood := { row := flagOneUptoRow, standIns := [], harness := (true, "bf533585f1ea3d891b215e56b7731b0cf9d66652c26f48bad8066fe8cbdc9b4b"), looks := true }, kinds := [], alts := [], laidByText := true, laidKinds := [.handle], laidTests := true, laidLooks := .later }
def FlagOneUptoCardSaid : Prop := Claim7.holds Tryz.pinned (.plain (OpenSpec.upto flagOneSpec)) flagOneUptoCard

/-- THE SECOND FORM's CARD OF 'milestonelaw25.FlagKeeps'. -/
def flagKeepsUptoCard : Claim7 := { stood := { row := flagKeepsUptoRow, standIns := [], harness := (true, "bf533585f1ea3d891b215e56b7731b0cf9d66652c26f48bad8066fe8cbdc9b4b"), looks := true }, kinds := [], alts := [], laidByText := true, laidKinds := [.handle], laidTests := true, laidLooks := .later }
def FlagKeepsUptoCardSaid : Prop := Claim7.holds Tryz.pinned (.plain (OpenSpec.upto flagKeepsSpec)) flagKeepsUptoCard

/-- THE SECOND FORM's CARD OF 'milestonelaw20.TwinErrors'. -/
def twinErrorsUptoCard : Claim7 := { stood := { row := twinErrorsUptoRow, standIns := [], harness := (true, "bf533585f1ea3d891b215e56b7731b0cf9d66652c26f48bad8066fe8cbdc9b4b"), looks := true }, kinds := [], alts := [], laidByText := true, laidKinds := [.handle], laidTests := true, laidLooks := .later }
def TwinErrorsUptoCardSaid : Prop := Claim7.holds Tryz.pinned (.plain (OpenSpec.upto twinErrorsSpec)) twinErrorsUptoCard

/-- THE SECOND FORM's CARD OF 'milestonelaw20.TwinAlike'. -/
def twinAlikeUptoCard : Claim7 := { stood := { row := twinAlikeUptoRow, standIns := [], harness := (true, "bf533585f1ea3d891b215e56b7731b0cf9d66652c26f48bad8066fe8cbdc9b4b"), looks := true }, kinds := [], alts := [], laidByText := true, laidKinds := [.handle], laidTests := true, laidLooks := .later }
def TwinAlikeUptoCardSaid : Prop := Claim7.holds Tryz.pinned (.plain (OpenSpec.upto twinAlikeSpec)) twinAlikeUptoCard

/-- THE SECOND FORM's CARD OF 'milestonelaw20.TwinLabels'. -/
def twinLabelsUptoCard : Claim7 := { stood := { row := twinLabelsUptoRow, standIns := [], harness := (true, "bf533585f1ea3d891b215e56b7731b0cf9d66652c26f48bad8066fe8cbdc9b4b"), looks := true }, kinds := [], alts := [], laidByText := true, laidKinds := [.handle], laidTests := true, laidLooks := .later }
def TwinLabelsUptoCardSaid : Prop := Claim7.holds Tryz.pinned (.plain (OpenSpec.upto twinLabelsSpec)) twinLabelsUptoCard

/-- THE SECOND FORM's CARD OF 'milestonelaw20.TwinExact'. -/
def twinExactUptoCard : Claim7 := { stood := { row := twinExactUptoRow, standIns := [], harness := (true, "bf533585f1ea3d891b215e56b7731b0cf9d66652c26f48bad8066fe8cbdc9b4b"), looks := true }, kinds := [], alts := [], laidByText := true, laidKinds := [.handle], laidTests := true, laidLooks := .later }
def TwinExactUptoCardSaid : Prop := Claim7.holds Tryz.pinned (.plain (OpenSpec.upto twinExactSpec)) twinExactUptoCard

/-- THE SECOND FORM's CARD OF 'milestonelaw20.TwinOnce'. -/
def twinOnceUptoCard : Claim7 := { stood := { row := twinOnceUptoRow, standIns := [], harness := (true, "bf533585f1ea3d891b215e56b7731b0cf9d66652c26f48bad8066fe8cbdc9b4b"), looks := true }, kinds := [], alts := [], laidByText := true, laidKinds := [.handle], laidTests := true, laidLooks := .later }
def TwinOnceUptoCardSaid : Prop := Claim7.holds Tryz.pinned (.plain (OpenSpec.upto twinOnceSpec)) twinOnceUptoCard

/-- THE SECOND FORM's CARD OF 'milestonelaw19.AltForged'. -/
def altForgedUptoCard : Claim7 := { stood := { row := altForgedUptoRow, standIns := [], harness := (true, "bf533585f1ea3d891b215e56b7731b0cf9d66652c26f48bad8066fe8cbdc9b4b"), looks := true }, kinds := [], alts := [], laidByText := true, laidKinds := [.handle], laidTests := true, laidLooks := .later }
def AltForgedUptoCardSaid : Prop := Claim7.holds Tryz.pinned (.plain (OpenSpec.upto altForgedSpec)) altForgedUptoCard
end Rows
end Go.Proofs.YtdjlnmjcdmnllaaGreatDoor
