/-
  NARROWER THAN 'FOR EVERY INPUT', by the rows' own cells (each row's printed sentence says how): AnswerParts: laid · AnswerErrors: laid · AnswerExact: laid · AnswerOnce: laid.
  DERIVED. THE GIVEN ROWS OF THIS SEAT. 4 by the template 'for every input the law returns true; each argument reads behind the call as it read before'; 0 by the template 'total and deterministic' (their statements: YtpnmkakfejadbaaGreatDoorTotals.lean).
  GIVEN WITH THE SEED: the statements are not yours to turn. If you find one false, say at which input.
  Laid BY PROGRAM, IN A SANDBOX (cutbox-rows.mjs): the forced cells as the released guide's own fill.sh prints them over the translation 1141f5070c071b4a… (all of the seat's roots in one cut). By AI agents, Wed Nov 11 2026. No macro, syntax, notation, axiom, sorry.
-/
import Derived.Test.YtpnmkakfejadbaaGreatDoorChecked
import GoSem.Claim
import GoSem.ClaimJoined
import GoSem.ClaimMapViews
import Derived.JoinedTies
import Derived.KernelRfl
namespace Go.Proofs.YtpnmkakfejadbaaGreatDoor
/- THE CELL 'sum', in the pinned program and in every row, IS THE sha256 OF THE DUMP (.gsa) THAT YtpnmkakfejadbaaGreatDoorProg.lean LOADS. Nothing in Lean hashes anything: it is a label: what it is worth is what the hold of that sum in a sandbox is worth. -/
noncomputable def Tryz.pinned : Pinned := { name := "ytpnmkakfejadbaagreatdoor", sum := "1141f5070c071b4a9f5a56faf2892ba3236fb7ede29f5c6913958e40fa12a220", checked := Tryz.checked }
namespace Rows
def none {H : Type} : Left H := { results := [], args := [] }

/- WHAT THE LISTED PACKAGE-LEVEL VARIABLES READ AS WHEN THE CALL BEGINS. Each datum BY PROGRAM (the guide's laid-datum.mjs) off the statement by which the dump's own 'gosem.cut.vars' lays the variable. In a bare row this is a premise. The card (YtpnmkakfejadbaaGreatDoorCards.lean) ties it to the program's text. -/
def laid_errors_errorType {H : Type} : DataW H := .iface "internal/reflectlite.rtype" (.agg [.ptr (.lit (.string [101, 114, 114, 111, 114]))])

/-- 'milestonelaw32.AnswerParts': WHATEVER THE INPUT: true; the input reads as it did. -/
def answerPartsSpec : ChangeSpec := { name := "answerParts", fn := fun _ => fun
  | [d] => { results := [.lit (.bool true)], args := [d] }
  | _ => none }
def answerPartsRow : OpenClaim := { program := "ytpnmkakfejadbaagreatdoor", sum := "1141f5070c071b4a9f5a56faf2892ba3236fb7ede29f5c6913958e40fa12a220", func := "milestone/milestonelaw32.AnswerParts", spec := "answerParts", inPlace := ["internal/reflectlite.ValueOf", "(internal/reflectlite.Value).Type", "(internal/reflectlite.Value).IsNil", "internal/reflectlite.TypeOf", "(internal/reflectlite.Value).Elem", "(internal/reflectlite.Value).Set"], unfollowed := true, recurses := true, named := ["errors.errorType"], plainKeys := false, apart := false, laid := [("errors.errorType", laid_errors_errorType)] }
def AnswerPartsSaid : Prop := answerPartsRow.holds Tryz.pinned (OpenSpec.ofChange answerPartsSpec)

/-- ITS FALSE NEIGHBOUR: 'it returns false'. Refute it at one input. -/
def answerPartsWrong : ChangeSpec := { name := "answerParts", fn := fun _ => fun
  | [d] => { results := [.lit (.bool false)], args := [d] }
  | _ => none }
def AnswerPartsWrongFalsely : Prop := answerPartsRow.holds Tryz.pinned (OpenSpec.ofChange answerPartsWrong)

/-- 'milestonelaw32.AnswerErrors': WHATEVER THE INPUT: true; the input reads as it did. -/
def answerErrorsSpec : ChangeSpec := { name := "answerErrors", fn := fun _ => fun
  | [d1, d2] => { results := [.lit (.bool true)], args := [d1, d2] }
  | _ => none }
def answerErrorsRow : OpenClaim := { program := "ytpnmkakfejadbaagreatdoor", sum := "1141f5070c071b4a9f5a56faf2892ba3236fb7ede29f5c6913958e40fa12a220", func := "milestone/milestonelaw32.AnswerErrors", spec := "answerErrors", inPlace := ["internal/reflectlite.ValueOf", "(internal/reflectlite.Value).Type", "(internal/reflectlite.Value).IsNil", "internal/reflectlite.TypeOf", "(internal/reflectlite.Value).Elem", "(internal/reflectlite.Value).Set"], unfollowed := true, recurses := true, named := ["errors.errorType"], plainKeys := false, apart := false, laid := [("errors.errorType", laid_errors_errorType)] }
def AnswerErrorsSaid : Prop := answerErrorsRow.holds Tryz.pinned (OpenSpec.ofChange answerErrorsSpec)

/-- ITS FALSE NEIGHBOUR: 'it returns false'. Refute it at one input. -/
def answerErrorsWrong : ChangeSpec := { name := "answerErrors", fn := fun _ => fun
  | [d1, d2] => { results := [.lit (.bool false)], args := [d1, d2] }
  | _ => none }
def AnswerErrorsWrongFalsely : Prop := answerErrorsRow.holds Tryz.pinned (OpenSpec.ofChange answerErrorsWrong)

/-- 'milestonelaw32.AnswerExact': WHATEVER THE INPUT: true; the input reads as it did. -/
def answerExactSpec : ChangeSpec := { name := "answerExact", fn := fun _ => fun
  | [d] => { results := [.lit (.bool true)], args := [d] }
  | _ => none }
def answerExactRow : OpenClaim := { program := "ytpnmkakfejadbaagreatdoor", sum := "1141f5070c071b4a9f5a56faf2892ba3236fb7ede29f5c6913958e40fa12a220", func := "milestone/milestonelaw32.AnswerExact", spec := "answerExact", inPlace := ["internal/reflectlite.ValueOf", "(internal/reflectlite.Value).Type", "(internal/reflectlite.Value).IsNil", "internal/reflectlite.TypeOf", "(internal/reflectlite.Value).Elem", "(internal/reflectlite.Value).Set"], unfollowed := true, recurses := true, named := ["errors.errorType"], plainKeys := false, apart := false, laid := [("errors.errorType", laid_errors_errorType)] }
def AnswerExactSaid : Prop := answerExactRow.holds Tryz.pinned (OpenSpec.ofChange answerExactSpec)

/-- ITS FALSE NEIGHBOUR: 'it returns false'. Refute it at one input. -/
def answerExactWrong : ChangeSpec := { name := "answerExact", fn := fun _ => fun
  | [d] => { results := [.lit (.bool false)], args := [d] }
  | _ => none }
def AnswerExactWrongFalsely : Prop := answerExactRow.holds Tryz.pinned (OpenSpec.ofChange answerExactWrong)

/-- 'milestonelaw32.AnswerOnce': WHATEVER THE INPUT: true; the input reads as it did. -/
def answerOnceSpec : ChangeSpec := { name := "answerOnce", fn := fun _ => fun
  | [d] => { results := [.lit (.bool true)], args := [d] }
  | _ => none }
def answerOnceRow : OpenClaim := { program := "ytpnmkakfejadbaagreatdoor", sum := "1141f5070c071b4a9f5a56faf2892ba3236fb7ede29f5c6913958e40fa12a220", func := "milestone/milestonelaw32.AnswerOnce", spec := "answerOnce", inPlace := ["internal/reflectlite.ValueOf", "(internal/reflectlite.Value).Type", "(internal/reflectlite.Value).IsNil", "internal/reflectlite.TypeOf", "(internal/reflectlite.Value).Elem", "(internal/reflectlite.Value).Set"], unfollowed := true, recurses := true, named := ["errors.errorType"], plainKeys := false, apart := false, laid := [("errors.errorType", laid_errors_errorType)] }
def AnswerOnceSaid : Prop := answerOnceRow.holds Tryz.pinned (OpenSpec.ofChange answerOnceSpec)

/-- ITS FALSE NEIGHBOUR: 'it returns false'. Refute it at one input. -/
def answerOnceWrong : ChangeSpec := { name := "answerOnce", fn := fun _ => fun
  | [d] => { results := [.lit (.bool false)], args := [d] }
  | _ => none }
def AnswerOnceWrongFalsely : Prop := answerOnceRow.holds Tryz.pinned (OpenSpec.ofChange answerOnceWrong)

/- THE SECOND FORM. 'bulk': how many values and letters a reading holds, each counted each time it is reached (what is shared counts as often as it is met; a slice's spare places count too). A statement '..UptoSaid' is the law's where the arguments, and the package variables that the reading takes, are together of bulk at most 1048576: NARROWER than '..Said'. Prove '..Said' where nothing that the law and all that it calls make is longer than what came in: it says more and counts as full. Else prove '..UptoSaid'. A law counts once. -/
mutual
def uptoBulk {H : Type} : DataW H → Nat
  | .lit (.string bytes) => bytes.length + 1
  | .lit _ => 1
  | .nil => 1
  | .ptr d => uptoBulk d + 1
  | .slice elems spare => uptoBulkAll elems + uptoBulkAll spare + 1
  | .agg parts => uptoBulkAll parts + 1
  | .iface _ d => uptoBulk d + 1
  | .map entries => uptoBulkEntries entries + 1
  | .held _ => 1
def uptoBulkAll {H : Type} : List (DataW H) → Nat
  | [] => 0
  | d :: r => uptoBulk d + uptoBulkAll r
def uptoBulkEntries {H : Type} : List (Lit × DataW H) → Nat
  | [] => 0
  | x :: r => uptoBulkEntry x + uptoBulkEntries r
def uptoBulkEntry {H : Type} : Lit × DataW H → Nat
  | (.string bytes, d) => bytes.length + uptoBulk d + 1
  | (_, d) => uptoBulk d + 1
 end
def uptoSmall : (H : Type) → List (DataW H) → Bool := fun _ ds => decide (uptoBulkAll ds ≤ 1048576)
def OpenSpec.upto (s : _root_.Go.ChangeSpec) : _root_.Go.OpenSpec := { _root_.Go.OpenSpec.ofChange s with cond := some uptoSmall }

/-- 'milestonelaw32.AnswerParts', WHERE WHAT IT READS IS OF BULK AT MOST 1048576: true; the input reads as it did. -/
def answerPartsUptoRow : OpenClaim := { program := "ytpnmkakfejadbaagreatdoor", sum := "1141f5070c071b4a9f5a56faf2892ba3236fb7ede29f5c6913958e40fa12a220", func := "milestone/milestonelaw32.AnswerParts", spec := "answerParts", inPlace := ["internal/reflectlite.ValueOf", "(internal/reflectlite.Value).Type", "(internal/reflectlite.Value).IsNil", "internal/reflectlite.TypeOf", "(internal/reflectlite.Value).Elem", "(internal/reflectlite.Value).Set"], unfollowed := true, recurses := true, named := ["errors.errorType"], plainKeys := false, apart := false, laid := [("errors.errorType", laid_errors_errorType)], narrowed := true }
def AnswerPartsUptoSaid : Prop := answerPartsUptoRow.holds Tryz.pinned (OpenSpec.upto answerPartsSpec)

/-- 'milestonelaw32.AnswerErrors', WHERE WHAT IT READS IS OF BULK AT MOST 1048576: true; the input reads as it did. -/
def answerErrorsUptoRow : OpenClaim := { program := "ytpnmkakfejadbaagreatdoor", sum := "1141f5070c071b4a9f5a56faf2892ba3236fb7ede29f5c6913958e40fa12a220", func := "milestone/milestonelaw32.AnswerErrors", spec := "answerErrors", inPlace := ["internal/reflectlite.ValueOf", "(internal/reflectlite.Value).Type", "(internal/reflectlite.Value).IsNil", "internal/reflectlite.TypeOf", "(internal/reflectlite.Value).Elem", "(internal/reflectlite.Value).Set"], unfollowed := true, recurses := true, named := ["errors.errorType"], plainKeys := false, apart := false, laid := [("errors.errorType", laid_errors_errorType)], narrowed := true }
def AnswerErrorsUptoSaid : Prop := answerErrorsUptoRow.holds Tryz.pinned (OpenSpec.upto answerErrorsSpec)

/-- 'milestonelaw32.AnswerExact', WHERE WHAT IT READS IS OF BULK AT MOST 1048576: true; the input reads as it did. -/
def answerExactUptoRow : OpenClaim := { program := "ytpnmkakfejadbaagreatdoor", sum := "1141f5070c071b4a9f5a56faf2892ba3236fb7ede29f5c6913958e40fa12a220", func := "milestone/milestonelaw32.AnswerExact", spec := "answerExact", inPlace := ["internal/reflectlite.ValueOf", "(internal/reflectlite.Value).Type", "(internal/reflectlite.Value).IsNil", "internal/reflectlite.TypeOf", "(internal/reflectlite.Value).Elem", "(internal/reflectlite.Value).Set"], unfollowed := true, recurses := true, named := ["errors.errorType"], plainKeys := false, apart := false, laid := [("errors.errorType", laid_errors_errorType)], narrowed := true }
def AnswerExactUptoSaid : Prop := answerExactUptoRow.holds Tryz.pinned (OpenSpec.upto answerExactSpec)

/-- 'milestonelaw32.AnswerOnce', WHERE WHAT IT READS IS OF BULK AT MOST 1048576: true; the input reads as it did. -/
def answerOnceUptoRow : OpenClaim := { program := "ytpnmkakfejadbaagreatdoor", sum := "1141f5070c071b4a9f5a56faf2892ba3236fb7ede29f5c6913958e40fa12a220", func := "milestone/milestonelaw32.AnswerOnce", spec := "answerOnce", inPlace := ["internal/reflectlite.ValueOf", "(internal/reflectlite.Value).Type", "(internal/reflectlite.Value).IsNil", "internal/reflectlite.TypeOf", "(internal/reflectlite.Value).Elem", "(internal/reflectlite.Value).Set"], unfollowed := true, recurses := true, named := ["errors.errorType"], plainKeys := false, apart := false, laid := [("errors.errorType", laid_errors_errorType)], narrowed := true }
def AnswerOnceUptoSaid : Prop := answerOnceUptoRow.holds Tryz.pinned (OpenSpec.upto answerOnceSpec)

end Rows
end Go.Proofs.YtpnmkakfejadbaaGreatDoor
