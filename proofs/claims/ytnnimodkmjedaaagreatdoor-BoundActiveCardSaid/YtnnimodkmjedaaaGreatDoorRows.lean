/-
  NARROWER THAN 'FOR EVERY INPUT', by the rows' own cells (each row's printed sentence says how): SeekShares: laid · SeekMeasures: laid · BoundActive: laid · FlagTells: laid · FlagOne: laid · FlagKeeps: laid.
  DERIVED. THE GIVEN ROWS OF THIS SEAT. 6 by the template 'for every input the law returns true; each argument reads behind the call as it read before'; 0 by the template 'total and deterministic' (their statements: YtnnimodkmjedaaaGreatDoorTotals.lean).
  GIVEN WITH THE SEED: the statements are not yours to turn. If you find one false, say at which input.
  Laid BY PROGRAM, IN A SANDBOX (cutbox-rows.mjs): the forced cells as the released guide's own fill.sh prints them over the translation 80fc5da3c37f5c0a… (all of the seat's roots in one cut). By AI agents, Wed Nov 11 2026. No macro, syntax, notation, axiom, sorry.
-/
import Derived.Test.YtnnimodkmjedaaaGreatDoorChecked
import GoSem.Claim
import GoSem.ClaimJoined
import GoSem.ClaimMapViews
import Derived.JoinedTies
import Derived.KernelRfl
namespace Go.Proofs.YtnnimodkmjedaaaGreatDoor
/- THE CELL 'sum', in the pinned program and in every row, IS THE sha256 OF THE DUMP (.gsa) THAT YtnnimodkmjedaaaGreatDoorProg.lean LOADS. Nothing in Lean hashes anything: it is a label: what it is worth is what the hold of that sum in a sandbox is worth. -/
noncomputable def Tryz.pinned : Pinned := { name := "ytnnimodkmjedaaagreatdoor", sum := "80fc5da3c37f5c0a366cc33ce7f6fd373311ff1066bccb26f370b698729fbd58", checked := Tryz.checked }
namespace Rows
def none {H : Type} : Left H := { results := [], args := [] }

/- WHAT THE LISTED PACKAGE-LEVEL VARIABLES READ AS WHEN THE CALL BEGINS. Each datum BY PROGRAM (the guide's laid-datum.mjs) off the statement by which the dump's own 'gosem.cut.vars' lays the variable. In a bare row this is a premise. The card (YtnnimodkmjedaaaGreatDoorCards.lean) ties it to the program's text. -/
def laid_errors_errorType {H : Type} : DataW H := .iface "internal/reflectlite.rtype" (.agg [.ptr (.lit (.string [101, 114, 114, 111, 114]))])

/-- 'milestonelaw13.SeekShares': WHATEVER THE INPUT: true; the input reads as it did. -/
def seekSharesSpec : ChangeSpec := { name := "seekShares", fn := fun _ => fun
  | [d] => { results := [.lit (.bool true)], args := [d] }
  | _ => none }
def seekSharesRow : OpenClaim := { program := "ytnnimodkmjedaaagreatdoor", sum := "80fc5da3c37f5c0a366cc33ce7f6fd373311ff1066bccb26f370b698729fbd58", func := "milestone/milestonelaw13.SeekShares", spec := "seekShares", inPlace := ["internal/reflectlite.ValueOf", "(internal/reflectlite.Value).Type", "(internal/reflectlite.Value).IsNil", "internal/reflectlite.TypeOf", "(internal/reflectlite.Value).Elem", "(internal/reflectlite.Value).Set"], unfollowed := true, recurses := true, named := ["errors.errorType"], apart := false, laid := [("errors.errorType", laid_errors_errorType)] }
def SeekSharesSaid : Prop := seekSharesRow.holds Tryz.pinned (OpenSpec.ofChange seekSharesSpec)

/-- ITS FALSE NEIGHBOUR: 'it returns false'. Refute it at one input. -/
def seekSharesWrong : ChangeSpec := { name := "seekShares", fn := fun _ => fun
  | [d] => { results := [.lit (.bool false)], args := [d] }
  | _ => none }
def SeekSharesWrongFalsely : Prop := seekSharesRow.holds Tryz.pinned (OpenSpec.ofChange seekSharesWrong)

/-- 'milestonelaw13.SeekMeasures': WHATEVER THE INPUT: true; the input reads as it did. -/
def seekMeasuresSpec : ChangeSpec := { name := "seekMeasures", fn := fun _ => fun
  | [d1, d2] => { results := [.lit (.bool true)], args := [d1, d2] }
  | _ => none }
def seekMeasuresRow : OpenClaim := { program := "ytnnimodkmjedaaagreatdoor", sum := "80fc5da3c37f5c0a366cc33ce7f6fd373311ff1066bccb26f370b698729fbd58", func := "milestone/milestonelaw13.SeekMeasures", spec := "seekMeasures", inPlace := ["internal/reflectlite.ValueOf", "(internal/reflectlite.Value).Type", "(internal/reflectlite.Value).IsNil", "internal/reflectlite.TypeOf", "(internal/reflectlite.Value).Elem", "(internal/reflectlite.Value).Set"], unfollowed := true, recurses := true, named := ["errors.errorType"], apart := false, laid := [("errors.errorType", laid_errors_errorType)] }
def SeekMeasuresSaid : Prop := seekMeasuresRow.holds Tryz.pinned (OpenSpec.ofChange seekMeasuresSpec)

/-- ITS FALSE NEIGHBOUR: 'it returns false'. Refute it at one input. -/
def seekMeasuresWrong : ChangeSpec := { name := "seekMeasures", fn := fun _ => fun
  | [d1, d2] => { results := [.lit (.bool false)], args := [d1, d2] }
  | _ => none }
def SeekMeasuresWrongFalsely : Prop := seekMeasuresRow.holds Tryz.pinned (OpenSpec.ofChange seekMeasuresWrong)

/-- 'milestonelaw18.BoundActive': WHATEVER THE INPUT: true; the input reads as it did. -/
def boundActiveSpec : ChangeSpec := { name := "boundActive", fn := fun _ => fun
  | [d1, d2] => { results := [.lit (.bool true)], args := [d1, d2] }
  | _ => none }
def boundActiveRow : OpenClaim := { program := "ytnnimodkmjedaaagreatdoor", sum := "80fc5da3c37f5c0a366cc33ce7f6fd373311ff1066bccb26f370b698729fbd58", func := "milestone/milestonelaw18.BoundActive", spec := "boundActive", inPlace := ["internal/reflectlite.ValueOf", "(internal/reflectlite.Value).Type", "(internal/reflectlite.Value).IsNil", "internal/reflectlite.TypeOf", "(internal/reflectlite.Value).Elem", "(internal/reflectlite.Value).Set"], unfollowed := true, recurses := true, named := ["errors.errorType"], apart := false, laid := [("errors.errorType", laid_errors_errorType)] }
def BoundActiveSaid : Prop := boundActiveRow.holds Tryz.pinned (OpenSpec.ofChange boundActiveSpec)

/-- ITS FALSE NEIGHBOUR: 'it returns false'. Refute it at one input. -/
def boundActiveWrong : ChangeSpec := { name := "boundActive", fn := fun _ => fun
  | [d1, d2] => { results := [.lit (.bool false)], args := [d1, d2] }
  | _ => none }
def BoundActiveWrongFalsely : Prop := boundActiveRow.holds Tryz.pinned (OpenSpec.ofChange boundActiveWrong)

/-- 'milestonelaw25.FlagTells': WHATEVER THE INPUT: true; the input reads as it did. -/
def flagTellsSpec : ChangeSpec := { name := "flagTells", fn := fun _ => fun
  | [d] => { results := [.lit (.bool true)], args := [d] }
  | _ => none }
def flagTellsRow : OpenClaim := { program := "ytnnimodkmjedaaagreatdoor", sum := "80fc5da3c37f5c0a366cc33ce7f6fd373311ff1066bccb26f370b698729fbd58", func := "milestone/milestonelaw25.FlagTells", spec := "flagTells", inPlace := ["internal/reflectlite.ValueOf", "(internal/reflectlite.Value).Type", "(internal/reflectlite.Value).IsNil", "internal/reflectlite.TypeOf", "(internal/reflectlite.Value).Elem", "(internal/reflectlite.Value).Set"], unfollowed := true, recurses := true, named := ["errors.errorType"], apart := false, laid := [("errors.errorType", laid_errors_errorType)] }
def FlagTellsSaid : Prop := flagTellsRow.holds Tryz.pinned (OpenSpec.ofChange flagTellsSpec)

/-- ITS FALSE NEIGHBOUR: 'it returns false'. Refute it at one input. -/
def flagTellsWrong : ChangeSpec := { name := "flagTells", fn := fun _ => fun
  | [d] => { results := [.lit (.bool false)], args := [d] }
  | _ => none }
def FlagTellsWrongFalsely : Prop := flagTellsRow.holds Tryz.pinned (OpenSpec.ofChange flagTellsWrong)

/-- 'milestonelaw25.FlagOne': WHATEVER THE INPUT: true; the input reads as it did. -/
def flagOneSpec : ChangeSpec := { name := "flagOne", fn := fun _ => fun
  | [d] => { results := [.lit (.bool true)], args := [d] }
  | _ => none }
def flagOneRow : OpenClaim := { program := "ytnnimodkmjedaaagreatdoor", sum := "80fc5da3c37f5c0a366cc33ce7f6fd373311ff1066bccb26f370b698729fbd58", func := "milestone/milestonelaw25.FlagOne", spec := "flagOne", inPlace := ["internal/reflectlite.ValueOf", "(internal/reflectlite.Value).Type", "(internal/reflectlite.Value).IsNil", "internal/reflectlite.TypeOf", "(internal/reflectlite.Value).Elem", "(internal/reflectlite.Value).Set"], unfollowed := true, recurses := true, named := ["errors.errorType"], apart := false, laid := [("errors.errorType", laid_errors_errorType)] }
def FlagOneSaid : Prop := flagOneRow.holds Tryz.pinned (OpenSpec.ofChange flagOneSpec)

/-- ITS FALSE NEIGHBOUR: 'it returns false'. Refute it at one input. -/
def flagOneWrong : ChangeSpec := { name := "flagOne", fn := fun _ => fun
  | [d] => { results := [.lit (.bool false)], args := [d] }
  | _ => none }
def FlagOneWrongFalsely : Prop := flagOneRow.holds Tryz.pinned (OpenSpec.ofChange flagOneWrong)

/-- 'milestonelaw25.FlagKeeps': WHATEVER THE INPUT: true; the input reads as it did. -/
def flagKeepsSpec : ChangeSpec := { name := "flagKeeps", fn := fun _ => fun
  | [d1, d2] => { results := [.lit (.bool true)], args := [d1, d2] }
  | _ => none }
def flagKeepsRow : OpenClaim := { program := "ytnnimodkmjedaaagreatdoor", sum := "80fc5da3c37f5c0a366cc33ce7f6fd373311ff1066bccb26f370b698729fbd58", func := "milestone/milestonelaw25.FlagKeeps", spec := "flagKeeps", inPlace := ["internal/reflectlite.ValueOf", "(internal/reflectlite.Value).Type", "(internal/reflectlite.Value).IsNil", "internal/reflectlite.TypeOf", "(internal/reflectlite.Value).Elem", "(internal/reflectlite.Value).Set"], unfollowed := true, recurses := true, named := ["errors.errorType"], apart := false, laid := [("errors.errorType", laid_errors_errorType)] }
def FlagKeepsSaid : Prop := flagKeepsRow.holds Tryz.pinned (OpenSpec.ofChange flagKeepsSpec)

/-- ITS FALSE NEIGHBOUR: 'it returns false'. Refute it at one input. -/
def flagKeepsWrong : ChangeSpec := { name := "flagKeeps", fn := fun _ => fun
  | [d1, d2] => { results := [.lit (.bool false)], args := [d1, d2] }
  | _ => none }
def FlagKeepsWrongFalsely : Prop := flagKeepsRow.holds Tryz.pinned (OpenSpec.ofChange flagKeepsWrong)

/- THE SECOND FORM. 'bulk': how many values and letters a reading holds, each counted each time it is reached (what is shared counts as often as it is met; a slice's spare places count too). A statement '..UptoSaid' is the law's where the arguments, and the package variables that the reading takes, are together of bulk at most 1048576: NARROWER than '..Said'. Prove '..Said' where nothing that the law and all that it calls make is longer than what came in: it says more and counts as full. Else prove '..UptoSaid'. A law counts once. -/
mutual
def uptoBulk {H : Type} : DataW H → Nat
  | .lit (.string bytes) => bytes.length + 1
  | .lit _ => 1
  | .nil => 1
  | .ptr d => uptoBulk d + 1
  | .slice elems spare => uptoBulkAll elems + uptoBulkAll spare + 1
  | .agg parts => uptoBulkAll parts + 1
  | .iface _ d => uptoBulk d + 1
  | .map entries => uptoBulkEntries entries + 1
  | .held _ => 1
def uptoBulkAll {H : Type} : List (DataW H) → Nat
  | [] => 0
  | d :: r => uptoBulk d + uptoBulkAll r
def uptoBulkEntries {H : Type} : List (Lit × DataW H) → Nat
  | [] => 0
  | x :: r => uptoBulkEntry x + uptoBulkEntries r
def uptoBulkEntry {H : Type} : Lit × DataW H → Nat
  | (.string bytes, d) => bytes.length + uptoBulk d + 1
  | (_, d) => uptoBulk d + 1
 end
def uptoSmall : (H : Type) → List (DataW H) → Bool := fun _ ds => decide (uptoBulkAll ds ≤ 1048576)
def OpenSpec.upto (s : _root_.Go.ChangeSpec) : _root_.Go.OpenSpec := { _root_.Go.OpenSpec.ofChange s with cond := some uptoSmall }

/-- 'milestonelaw13.SeekShares', WHERE WHAT IT READS IS OF BULK AT MOST 1048576: true; the input reads as it did. -/
def seekSharesUptoRow : OpenClaim := { program := "ytnnimodkmjedaaagreatdoor", sum := "80fc5da3c37f5c0a366cc33ce7f6fd373311ff1066bccb26f370b698729fbd58", func := "milestone/milestonelaw13.SeekShares", spec := "seekShares", inPlace := ["internal/reflectlite.ValueOf", "(internal/reflectlite.Value).Type", "(internal/reflectlite.Value).IsNil", "internal/reflectlite.TypeOf", "(internal/reflectlite.Value).Elem", "(internal/reflectlite.Value).Set"], unfollowed := true, recurses := true, named := ["errors.errorType"], apart := false, laid := [("errors.errorType", laid_errors_errorType)], narrowed := true }
def SeekSharesUptoSaid : Prop := seekSharesUptoRow.holds Tryz.pinned (OpenSpec.upto seekSharesSpec)

/-- 'milestonelaw13.SeekMeasures', WHERE WHAT IT READS IS OF BULK AT MOST 1048576: true; the input reads as it did. -/
def seekMeasuresUptoRow : OpenClaim := { program := "ytnnimodkmjedaaagreatdoor", sum := "80fc5da3c37f5c0a366cc33ce7f6fd373311ff1066bccb26f370b698729fbd58", func := "milestone/milestonelaw13.SeekMeasures", spec := "seekMeasures", inPlace := ["internal/reflectlite.ValueOf", "(internal/reflectlite.Value).Type", "(internal/reflectlite.Value).IsNil", "internal/reflectlite.TypeOf", "(internal/reflectlite.Value).Elem", "(internal/reflectlite.Value).Set"], unfollowed := true, recurses := true, named := ["errors.errorType"], apart := false, laid := [("errors.errorType", laid_errors_errorType)], narrowed := true }
def SeekMeasuresUptoSaid : Prop := seekMeasuresUptoRow.holds Tryz.pinned (OpenSpec.upto seekMeasuresSpec)

/-- 'milestonelaw18.BoundActive', WHERE WHAT IT READS IS OF BULK AT MOST 1048576: true; the input reads as it did. -/
def boundActiveUptoRow : OpenClaim := { program := "ytnnimodkmjedaaagreatdoor", sum := "80fc5da3c37f5c0a366cc33ce7f6fd373311ff1066bccb26f370b698729fbd58", func := "milestone/milestonelaw18.BoundActive", spec := "boundActive", inPlace := ["internal/reflectlite.ValueOf", "(internal/reflectlite.Value).Type", "(internal/reflectlite.Value).IsNil", "internal/reflectlite.TypeOf", "(internal/reflectlite.Value).Elem", "(internal/reflectlite.Value).Set"], unfollowed := true, recurses := true, named := ["errors.errorType"], apart := false, laid := [("errors.errorType", laid_errors_errorType)], narrowed := true }
def BoundActiveUptoSaid : Prop := boundActiveUptoRow.holds Tryz.pinned (OpenSpec.upto boundActiveSpec)

/-- 'milestonelaw25.FlagTells', WHERE WHAT IT READS IS OF BULK AT MOST 1048576: true; the input reads as it did. -/
def flagTellsUptoRow : OpenClaim := { program := "ytnnimodkmjedaaagreatdoor", sum := "80fc5da3c37f5c0a366cc33ce7f6fd373311ff1066bccb26f370b698729fbd58", func := "milestone/milestonelaw25.FlagTells", spec := "flagTells", inPlace := ["internal/reflectlite.ValueOf", "(internal/reflectlite.Value).Type", "(internal/reflectlite.Value).IsNil", "internal/reflectlite.TypeOf", "(internal/reflectlite.Value).Elem", "(internal/reflectlite.Value).Set"], unfollowed := true, recurses := true, named := ["errors.errorType"], apart := false, laid := [("errors.errorType", laid_errors_errorType)], narrowed := true }
def FlagTellsUptoSaid : Prop := flagTellsUptoRow.holds Tryz.pinned (OpenSpec.upto flagTellsSpec)

/-- 'milestonelaw25.FlagOne', WHERE WHAT IT READS IS OF BULK AT MOST 1048576: true; the input reads as it did. -/
def flagOneUptoRow : OpenClaim := { program := "ytnnimodkmjedaaagreatdoor", sum := "80fc5da3c37f5c0a366cc33ce7f6fd373311ff1066bccb26f370b698729fbd58", func := "milestone/milestonelaw25.FlagOne", spec := "flagOne", inPlace := ["internal/reflectlite.ValueOf", "(internal/reflectlite.Value).Type", "(internal/reflectlite.Value).IsNil", "internal/reflectlite.TypeOf", "(internal/reflectlite.Value).Elem", "(internal/reflectlite.Value).Set"], unfollowed := true, recurses := true, named := ["errors.errorType"], apart := false, laid := [("errors.errorType", laid_errors_errorType)], narrowed := true }
def FlagOneUptoSaid : Prop := flagOneUptoRow.holds Tryz.pinned (OpenSpec.upto flagOneSpec)

/-- 'milestonelaw25.FlagKeeps', WHERE WHAT IT READS IS OF BULK AT MOST 1048576: true; the input reads as it did. -/
def flagKeepsUptoRow : OpenClaim := { program := "ytnnimodkmjedaaagreatdoor", sum := "80fc5da3c37f5c0a366cc33ce7f6fd373311ff1066bccb26f370b698729fbd58", func := "milestone/milestonelaw25.FlagKeeps", spec := "flagKeeps", inPlace := ["internal/reflectlite.ValueOf", "(internal/reflectlite.Value).Type", "(internal/reflectlite.Value).IsNil", "internal/reflectlite.TypeOf", "(internal/reflectlite.Value).Elem", "(internal/reflectlite.Value).Set"], unfollowed := true, recurses := true, named := ["errors.errorType"], apart := false, laid := [("errors.errorType", laid_errors_errorType)], narrowed := true }
def FlagKeepsUptoSaid : Prop := flagKeepsUptoRow.holds Tryz.pinned (OpenSpec.upto flagKeepsSpec)

end Rows
end Go.Proofs.YtnnimodkmjedaaaGreatDoor
