/-
  NARROWER THAN 'FOR EVERY INPUT', by the rows' own cells (each row's printed sentence says how): TwinErrors: laid · TwinAlike: laid · TwinLabels: laid · TwinExact: laid · SiftErrors: laid · SiftBelow: laid · SiftExact: laid.
  DERIVED. THE GIVEN ROWS OF THIS SEAT. 7 by the template 'for every input the law returns true; each argument reads behind the call as it read before'; 0 by the template 'total and deterministic' (their statements: YtfdopodkngggfaaGreatDoorTotals.lean).
  GIVEN WITH THE SEED: the statements are not yours to turn. If you find one false, say at which input.
  Laid BY PROGRAM, IN A SANDBOX (cutbox-rows.mjs): the forced cells as the released guide's own fill.sh prints them over the translation 1bb2bbbfa7266005… (all of the seat's roots in one cut). By AI agents, Wed Nov 11 2026. No macro, syntax, notation, axiom, sorry.
-/
import Derived.Test.YtfdopodkngggfaaGreatDoorChecked
import GoSem.Claim
import GoSem.ClaimJoined
import GoSem.ClaimMapViews
import Derived.JoinedTies
import Derived.KernelRfl
namespace Go.Proofs.YtfdopodkngggfaaGreatDoor
/- THE CELL 'sum', in the pinned program and in every row, IS THE sha256 OF THE DUMP (.gsa) THAT YtfdopodkngggfaaGreatDoorProg.lean LOADS. Nothing in Lean hashes anything: it is a label: what it is worth is what the hold of that sum in a sandbox is worth. -/
noncomputable def Tryz.pinned : Pinned := { name := "ytfdopodkngggfaagreatdoor", sum := "1bb2bbbfa7266005e8489c0a74e38d234fd54e9a2ed965582ce4db72238177c7", checked := Tryz.checked }
namespace Rows
def none {H : Type} : Left H := { results := [], args := [] }

/- WHAT THE LISTED PACKAGE-LEVEL VARIABLES READ AS WHEN THE CALL BEGINS. Each datum BY PROGRAM (the guide's laid-datum.mjs) off the statement by which the dump's own 'gosem.cut.vars' lays the variable. In a bare row this is a premise. The card (YtfdopodkngggfaaGreatDoorCards.lean) ties it to the program's text. -/
def laid_errors_errorType {H : Type} : DataW H := .iface "internal/reflectlite.rtype" (.agg [.ptr (.lit (.string [101, 114, 114, 111, 114]))])

/-- 'milestonelaw20.TwinErrors': WHATEVER THE INPUT: true; the input reads as it did. -/
def twinErrorsSpec : ChangeSpec := { name := "twinErrors", fn := fun _ => fun
  | [d1, d2, d3] => { results := [.lit (.bool true)], args := [d1, d2, d3] }
  | _ => none }
def twinErrorsRow : OpenClaim := { program := "ytfdopodkngggfaagreatdoor", sum := "1bb2bbbfa7266005e8489c0a74e38d234fd54e9a2ed965582ce4db72238177c7", func := "milestone/milestonelaw20.TwinErrors", spec := "twinErrors", inPlace := ["internal/reflectlite.ValueOf", "(internal/reflectlite.Value).Type", "(internal/reflectlite.Value).IsNil", "internal/reflectlite.TypeOf", "(internal/reflectlite.Value).Elem", "(internal/reflectlite.Value).Set"], unfollowed := true, recurses := true, named := ["errors.errorType"], apart := false, laid := [("errors.errorType", laid_errors_errorType)] }
def TwinErrorsSaid : Prop := twinErrorsRow.holds Tryz.pinned (OpenSpec.ofChange twinErrorsSpec)

/-- ITS FALSE NEIGHBOUR: 'it returns false'. Refute it at one input. -/
def twinErrorsWrong : ChangeSpec := { name := "twinErrors", fn := fun _ => fun
  | [d1, d2, d3] => { results := [.lit (.bool false)], args := [d1, d2, d3] }
  | _ => none }
def TwinErrorsWrongFalsely : Prop := twinErrorsRow.holds Tryz.pinned (OpenSpec.ofChange twinErrorsWrong)

/-- 'milestonelaw20.TwinAlike': WHATEVER THE INPUT: true; the input reads as it did. -/
def twinAlikeSpec : ChangeSpec := { name := "twinAlike", fn := fun _ => fun
  | [d1, d2, d3] => { results := [.lit (.bool true)], args := [d1, d2, d3] }
  | _ => none }
def twinAlikeRow : OpenClaim := { program := "ytfdopodkngggfaagreatdoor", sum := "1bb2bbbfa7266005e8489c0a74e38d234fd54e9a2ed965582ce4db72238177c7", func := "milestone/milestonelaw20.TwinAlike", spec := "twinAlike", inPlace := ["internal/reflectlite.ValueOf", "(internal/reflectlite.Value).Type", "(internal/reflectlite.Value).IsNil", "internal/reflectlite.TypeOf", "(internal/reflectlite.Value).Elem", "(internal/reflectlite.Value).Set"], unfollowed := true, recurses := true, named := ["errors.errorType"], apart := false, laid := [("errors.errorType", laid_errors_errorType)] }
def TwinAlikeSaid : Prop := twinAlikeRow.holds Tryz.pinned (OpenSpec.ofChange twinAlikeSpec)

/-- ITS FALSE NEIGHBOUR: 'it returns false'. Refute it at one input. -/
def twinAlikeWrong : ChangeSpec := { name := "twinAlike", fn := fun _ => fun
  | [d1, d2, d3] => { results := [.lit (.bool false)], args := [d1, d2, d3] }
  | _ => none }
def TwinAlikeWrongFalsely : Prop := twinAlikeRow.holds Tryz.pinned (OpenSpec.ofChange twinAlikeWrong)

/-- 'milestonelaw20.TwinLabels': WHATEVER THE INPUT: true; the input reads as it did. -/
def twinLabelsSpec : ChangeSpec := { name := "twinLabels", fn := fun _ => fun
  | [d] => { results := [.lit (.bool true)], args := [d] }
  | _ => none }
def twinLabelsRow : OpenClaim := { program := "ytfdopodkngggfaagreatdoor", sum := "1bb2bbbfa7266005e8489c0a74e38d234fd54e9a2ed965582ce4db72238177c7", func := "milestone/milestonelaw20.TwinLabels", spec := "twinLabels", inPlace := ["internal/reflectlite.ValueOf", "(internal/reflectlite.Value).Type", "(internal/reflectlite.Value).IsNil", "internal/reflectlite.TypeOf", "(internal/reflectlite.Value).Elem", "(internal/reflectlite.Value).Set"], unfollowed := true, recurses := true, named := ["errors.errorType"], apart := false, laid := [("errors.errorType", laid_errors_errorType)] }
def TwinLabelsSaid : Prop := twinLabelsRow.holds Tryz.pinned (OpenSpec.ofChange twinLabelsSpec)

/-- ITS FALSE NEIGHBOUR: 'it returns false'. Refute it at one input. -/
def twinLabelsWrong : ChangeSpec := { name := "twinLabels", fn := fun _ => fun
  | [d] => { results := [.lit (.bool false)], args := [d] }
  | _ => none }
def TwinLabelsWrongFalsely : Prop := twinLabelsRow.holds Tryz.pinned (OpenSpec.ofChange twinLabelsWrong)

/-- 'milestonelaw20.TwinExact': WHATEVER THE INPUT: true; the input reads as it did. -/
def twinExactSpec : ChangeSpec := { name := "twinExact", fn := fun _ => fun
  | [d] => { results := [.lit (.bool true)], args := [d] }
  | _ => none }
def twinExactRow : OpenClaim := { program := "ytfdopodkngggfaagreatdoor", sum := "1bb2bbbfa7266005e8489c0a74e38d234fd54e9a2ed965582ce4db72238177c7", func := "milestone/milestonelaw20.TwinExact", spec := "twinExact", inPlace := ["internal/reflectlite.ValueOf", "(internal/reflectlite.Value).Type", "(internal/reflectlite.Value).IsNil", "internal/reflectlite.TypeOf", "(internal/reflectlite.Value).Elem", "(internal/reflectlite.Value).Set"], unfollowed := true, recurses := true, named := ["errors.errorType"], apart := false, laid := [("errors.errorType", laid_errors_errorType)] }
def TwinExactSaid : Prop := twinExactRow.holds Tryz.pinned (OpenSpec.ofChange twinExactSpec)

/-- ITS FALSE NEIGHBOUR: 'it returns false'. Refute it at one input. -/
def twinExactWrong : ChangeSpec := { name := "twinExact", fn := fun _ => fun
  | [d] => { results := [.lit (.bool false)], args := [d] }
  | _ => none }
def TwinExactWrongFalsely : Prop := twinExactRow.holds Tryz.pinned (OpenSpec.ofChange twinExactWrong)

/-- 'milestonelaw26.SiftErrors': WHATEVER THE INPUT: true; the input reads as it did. -/
def siftErrorsSpec : ChangeSpec := { name := "siftErrors", fn := fun _ => fun
  | [d1, d2, d3] => { results := [.lit (.bool true)], args := [d1, d2, d3] }
  | _ => none }
def siftErrorsRow : OpenClaim := { program := "ytfdopodkngggfaagreatdoor", sum := "1bb2bbbfa7266005e8489c0a74e38d234fd54e9a2ed965582ce4db72238177c7", func := "milestone/milestonelaw26.SiftErrors", spec := "siftErrors", inPlace := ["internal/reflectlite.ValueOf", "(internal/reflectlite.Value).Type", "(internal/reflectlite.Value).IsNil", "internal/reflectlite.TypeOf", "(internal/reflectlite.Value).Elem", "(internal/reflectlite.Value).Set"], unfollowed := true, recurses := true, named := ["errors.errorType"], apart := false, laid := [("errors.errorType", laid_errors_errorType)] }
def SiftErrorsSaid : Prop := siftErrorsRow.holds Tryz.pinned (OpenSpec.ofChange siftErrorsSpec)

/-- ITS FALSE NEIGHBOUR: 'it returns false'. Refute it at one input. -/
def siftErrorsWrong : ChangeSpec := { name := "siftErrors", fn := fun _ => fun
  | [d1, d2, d3] => { results := [.lit (.bool false)], args := [d1, d2, d3] }
  | _ => none }
def SiftErrorsWrongFalsely : Prop := siftErrorsRow.holds Tryz.pinned (OpenSpec.ofChange siftErrorsWrong)

/-- 'milestonelaw26.SiftBelow': WHATEVER THE INPUT: true; the input reads as it did. -/
def siftBelowSpec : ChangeSpec := { name := "siftBelow", fn := fun _ => fun
  | [d] => { results := [.lit (.bool true)], args := [d] }
  | _ => none }
def siftBelowRow : OpenClaim := { program := "ytfdopodkngggfaagreatdoor", sum := "1bb2bbbfa7266005e8489c0a74e38d234fd54e9a2ed965582ce4db72238177c7", func := "milestone/milestonelaw26.SiftBelow", spec := "siftBelow", inPlace := ["internal/reflectlite.ValueOf", "(internal/reflectlite.Value).Type", "(internal/reflectlite.Value).IsNil", "internal/reflectlite.TypeOf", "(internal/reflectlite.Value).Elem", "(internal/reflectlite.Value).Set"], unfollowed := true, recurses := true, named := ["errors.errorType"], apart := false, laid := [("errors.errorType", laid_errors_errorType)] }
def SiftBelowSaid : Prop := siftBelowRow.holds Tryz.pinned (OpenSpec.ofChange siftBelowSpec)

/-- ITS FALSE NEIGHBOUR: 'it returns false'. Refute it at one input. -/
def siftBelowWrong : ChangeSpec := { name := "siftBelow", fn := fun _ => fun
  | [d] => { results := [.lit (.bool false)], args := [d] }
  | _ => none }
def SiftBelowWrongFalsely : Prop := siftBelowRow.holds Tryz.pinned (OpenSpec.ofChange siftBelowWrong)

/-- 'milestonelaw26.SiftExact': WHATEVER THE INPUT: true; the input reads as it did. -/
def siftExactSpec : ChangeSpec := { name := "siftExact", fn := fun _ => fun
  | [d] => { results := [.lit (.bool true)], args := [d] }
  | _ => none }
def siftExactRow : OpenClaim := { program := "ytfdopodkngggfaagreatdoor", sum := "1bb2bbbfa7266005e8489c0a74e38d234fd54e9a2ed965582ce4db72238177c7", func := "milestone/milestonelaw26.SiftExact", spec := "siftExact", inPlace := ["internal/reflectlite.ValueOf", "(internal/reflectlite.Value).Type", "(internal/reflectlite.Value).IsNil", "internal/reflectlite.TypeOf", "(internal/reflectlite.Value).Elem", "(internal/reflectlite.Value).Set"], unfollowed := true, recurses := true, named := ["errors.errorType"], apart := false, laid := [("errors.errorType", laid_errors_errorType)] }
def SiftExactSaid : Prop := siftExactRow.holds Tryz.pinned (OpenSpec.ofChange siftExactSpec)

/-- ITS FALSE NEIGHBOUR: 'it returns false'. Refute it at one input. -/
def siftExactWrong : ChangeSpec := { name := "siftExact", fn := fun _ => fun
  | [d] => { results := [.lit (.bool false)], args := [d] }
  | _ => none }
def SiftExactWrongFalsely : Prop := siftExactRow.holds Tryz.pinned (OpenSpec.ofChange siftExactWrong)

/- THE SECOND FORM. 'bulk': how many values and letters a reading holds, each counted each time it is reached (what is shared counts as often as it is met; a slice's spare places count too). A statement '..UptoSaid' is the law's where the arguments, and the package variables that the reading takes, are together of bulk at most 1048576: NARROWER than '..Said'. Prove '..Said' where nothing that the law and all that it calls make is longer than what came in: it says more and counts as full. Else prove '..UptoSaid'. A law counts once. -/
mutual
def uptoBulk {H : Type} : DataW H → Nat
  | .lit (.string bytes) => bytes.length + 1
  | .lit _ => 1
  | .nil => 1
  | .ptr d => uptoBulk d + 1
  | .slice elems spare => uptoBulkAll elems + uptoBulkAll spare + 1
  | .agg parts => uptoBulkAll parts + 1
  | .iface _ d => uptoBulk d + 1
  | .map entries => uptoBulkEntries entries + 1
  | .held _ => 1
def uptoBulkAll {H : Type} : List (DataW H) → Nat
  | [] => 0
  | d :: r => uptoBulk d + uptoBulkAll r
def uptoBulkEntries {H : Type} : List (Lit × DataW H) → Nat
  | [] => 0
  | x :: r => uptoBulkEntry x + uptoBulkEntries r
def uptoBulkEntry {H : Type} : Lit × DataW H → Nat
  | (.string bytes, d) => bytes.length + uptoBulk d + 1
  | (_, d) => uptoBulk d + 1
 end
def uptoSmall : (H : Type) → List (DataW H) → Bool := fun _ ds => decide (uptoBulkAll ds ≤ 1048576)
def OpenSpec.upto (s : _root_.Go.ChangeSpec) : _root_.Go.OpenSpec := { _root_.Go.OpenSpec.ofChange s with cond := some uptoSmall }

/-- 'milestonelaw20.TwinErrors', WHERE WHAT IT READS IS OF BULK AT MOST 1048576: true; the input reads as it did. -/
def twinErrorsUptoRow : OpenClaim := { program := "ytfdopodkngggfaagreatdoor", sum := "1bb2bbbfa7266005e8489c0a74e38d234fd54e9a2ed965582ce4db72238177c7", func := "milestone/milestonelaw20.TwinErrors", spec := "twinErrors", inPlace := ["internal/reflectlite.ValueOf", "(internal/reflectlite.Value).Type", "(internal/reflectlite.Value).IsNil", "internal/reflectlite.TypeOf", "(internal/reflectlite.Value).Elem", "(internal/reflectlite.Value).Set"], unfollowed := true, recurses := true, named := ["errors.errorType"], apart := false, laid := [("errors.errorType", laid_errors_errorType)], narrowed := true }
def TwinErrorsUptoSaid : Prop := twinErrorsUptoRow.holds Tryz.pinned (OpenSpec.upto twinErrorsSpec)

/-- 'milestonelaw20.TwinAlike', WHERE WHAT IT READS IS OF BULK AT MOST 1048576: true; the input reads as it did. -/
def twinAlikeUptoRow : OpenClaim := { program := "ytfdopodkngggfaagreatdoor", sum := "1bb2bbbfa7266005e8489c0a74e38d234fd54e9a2ed965582ce4db72238177c7", func := "milestone/milestonelaw20.TwinAlike", spec := "twinAlike", inPlace := ["internal/reflectlite.ValueOf", "(internal/reflectlite.Value).Type", "(internal/reflectlite.Value).IsNil", "internal/reflectlite.TypeOf", "(internal/reflectlite.Value).Elem", "(internal/reflectlite.Value).Set"], unfollowed := true, recurses := true, named := ["errors.errorType"], apart := false, laid := [("errors.errorType", laid_errors_errorType)], narrowed := true }
def TwinAlikeUptoSaid : Prop := twinAlikeUptoRow.holds Tryz.pinned (OpenSpec.upto twinAlikeSpec)

/-- 'milestonelaw20.TwinLabels', WHERE WHAT IT READS IS OF BULK AT MOST 1048576: true; the input reads as it did. -/
def twinLabelsUptoRow : OpenClaim := { program := "ytfdopodkngggfaagreatdoor", sum := "1bb2bbbfa7266005e8489c0a74e38d234fd54e9a2ed965582ce4db72238177c7", func := "milestone/milestonelaw20.TwinLabels", spec := "twinLabels", inPlace := ["internal/reflectlite.ValueOf", "(internal/reflectlite.Value).Type", "(internal/reflectlite.Value).IsNil", "internal/reflectlite.TypeOf", "(internal/reflectlite.Value).Elem", "(internal/reflectlite.Value).Set"], unfollowed := true, recurses := true, named := ["errors.errorType"], apart := false, laid := [("errors.errorType", laid_errors_errorType)], narrowed := true }
def TwinLabelsUptoSaid : Prop := twinLabelsUptoRow.holds Tryz.pinned (OpenSpec.upto twinLabelsSpec)

/-- 'milestonelaw20.TwinExact', WHERE WHAT IT READS IS OF BULK AT MOST 1048576: true; the input reads as it did. -/
def twinExactUptoRow : OpenClaim := { program := "ytfdopodkngggfaagreatdoor", sum := "1bb2bbbfa7266005e8489c0a74e38d234fd54e9a2ed965582ce4db72238177c7", func := "milestone/milestonelaw20.TwinExact", spec := "twinExact", inPlace := ["internal/reflectlite.ValueOf", "(internal/reflectlite.Value).Type", "(internal/reflectlite.Value).IsNil", "internal/reflectlite.TypeOf", "(internal/reflectlite.Value).Elem", "(internal/reflectlite.Value).Set"], unfollowed := true, recurses := true, named := ["errors.errorType"], apart := false, laid := [("errors.errorType", laid_errors_errorType)], narrowed := true }
def TwinExactUptoSaid : Prop := twinExactUptoRow.holds Tryz.pinned (OpenSpec.upto twinExactSpec)

/-- 'milestonelaw26.SiftErrors', WHERE WHAT IT READS IS OF BULK AT MOST 1048576: true; the input reads as it did. -/
def siftErrorsUptoRow : OpenClaim := { program := "ytfdopodkngggfaagreatdoor", sum := "1bb2bbbfa7266005e8489c0a74e38d234fd54e9a2ed965582ce4db72238177c7", func := "milestone/milestonelaw26.SiftErrors", spec := "siftErrors", inPlace := ["internal/reflectlite.ValueOf", "(internal/reflectlite.Value).Type", "(internal/reflectlite.Value).IsNil", "internal/reflectlite.TypeOf", "(internal/reflectlite.Value).Elem", "(internal/reflectlite.Value).Set"], unfollowed := true, recurses := true, named := ["errors.errorType"], apart := false, laid := [("errors.errorType", laid_errors_errorType)], narrowed := true }
def SiftErrorsUptoSaid : Prop := siftErrorsUptoRow.holds Tryz.pinned (OpenSpec.upto siftErrorsSpec)

/-- 'milestonelaw26.SiftBelow', WHERE WHAT IT READS IS OF BULK AT MOST 1048576: true; the input reads as it did. -/
def siftBelowUptoRow : OpenClaim := { program := "ytfdopodkngggfaagreatdoor", sum := "1bb2bbbfa7266005e8489c0a74e38d234fd54e9a2ed965582ce4db72238177c7", func := "milestone/milestonelaw26.SiftBelow", spec := "siftBelow", inPlace := ["internal/reflectlite.ValueOf", "(internal/reflectlite.Value).Type", "(internal/reflectlite.Value).IsNil", "internal/reflectlite.TypeOf", "(internal/reflectlite.Value).Elem", "(internal/reflectlite.Value).Set"], unfollowed := true, recurses := true, named := ["errors.errorType"], apart := false, laid := [("errors.errorType", laid_errors_errorType)], narrowed := true }
def SiftBelowUptoSaid : Prop := siftBelowUptoRow.holds Tryz.pinned (OpenSpec.upto siftBelowSpec)

/-- 'milestonelaw26.SiftExact', WHERE WHAT IT READS IS OF BULK AT MOST 1048576: true; the input reads as it did. -/
def siftExactUptoRow : OpenClaim := { program := "ytfdopodkngggfaagreatdoor", sum := "1bb2bbbfa7266005e8489c0a74e38d234fd54e9a2ed965582ce4db72238177c7", func := "milestone/milestonelaw26.SiftExact", spec := "siftExact", inPlace := ["internal/reflectlite.ValueOf", "(internal/reflectlite.Value).Type", "(internal/reflectlite.Value).IsNil", "internal/reflectlite.TypeOf", "(internal/reflectlite.Value).Elem", "(internal/reflectlite.Value).Set"], unfollowed := true, recurses := true, named := ["errors.errorType"], apart := false, laid := [("errors.errorType", laid_errors_errorType)], narrowed := true }
def SiftExactUptoSaid : Prop := siftExactUptoRow.holds Tryz.pinned (OpenSpec.upto siftExactSpec)

end Rows
end Go.Proofs.YtfdopodkngggfaaGreatDoor
