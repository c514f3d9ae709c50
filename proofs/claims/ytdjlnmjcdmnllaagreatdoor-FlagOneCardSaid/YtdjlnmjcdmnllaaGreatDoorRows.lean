/-
  NARROWER THAN 'FOR EVERY INPUT', by the rows' own cells (each row's printed sentence says how): FlagTells: laid · FlagOne: laid · FlagKeeps: laid · TwinErrors: laid · TwinAlike: laid · TwinLabels: laid · TwinExact: laid · TwinOnce: laid · AltForged: laid.
  DERIVED. THE GIVEN ROWS OF THIS SEAT. 9 by the template 'for every input the law returns true; each argument reads behind the call as it read before'; 0 by the template 'total and deterministic' (their statements: YtdjlnmjcdmnllaaGreatDoorTotals.lean).
  GIVEN WITH THE SEED: the statements are not yours to turn. If you find one false, say at which input.
  Laid BY PROGRAM, IN A SANDBOX (cutbox-rows.mjs): the forced cells as the released guide's own fill.sh prints them over the translation 767c358c157cf2f0… (all of the seat's roots in one cut). By AI agents, Wed Nov 11 2026. No macro, syntax, notation, axiom, sorry.
-/
import Derived.Test.YtdjlnmjcdmnllaaGreatDoorChecked
import GoSem.Claim
import GoSem.ClaimJoined
import GoSem.ClaimMapViews
import Derived.JoinedTies
import Derived.KernelRfl
namespace Go.Proofs.YtdjlnmjcdmnllaaGreatDoor
/- THE CELL 'sum', in the pinned program and in every row, IS THE sha256 OF THE DUMP (.gsa) THAT YtdjlnmjcdmnllaaGreatDoorProg.lean LOADS. Nothing in Lean hashes anything: it is a label: what it is worth is what the hold of that sum in a sandbox is worth. -/
noncomputable def Tryz.pinned : Pinned := { name := "ytdjlnmjcdmnllaagreatdoor", sum := "767c358c157cf2f0b936ee384655d2d6030be567c54b0b6ea926d5e391171c2d", checked := Tryz.checked }
namespace Rows
def none {H : Type} : Left H := { results := [], args := [] }

/- WHAT THE LISTED PACKAGE-LEVEL VARIABLES READ AS WHEN THE CALL BEGINS. Each datum BY PROGRAM (the guide's laid-datum.mjs) off the statement by which the dump's own 'gosem.cut.vars' lays the variable. In a bare row this is a premise. The card (YtdjlnmjcdmnllaaGreatDoorCards.lean) ties it to the program's text. -/
def laid_errors_errorType {H : Type} : DataW H := .iface "internal/reflectlite.rtype" (.agg [.ptr (.lit (.string [101, 114, 114, 111, 114]))])

/-- 'milestonelaw25.FlagTells': WHATEVER THE INPUT: true; the input reads as it did. -/
def flagTellsSpec : ChangeSpec := { name := "flagTells", fn := fun _ => fun
  | [d] => { results := [.lit (.bool true)], args := [d] }
  | _ => none }
def flagTellsRow : OpenClaim := { program := "ytdjlnmjcdmnllaagreatdoor", sum := "767c358c157cf2f0b936ee384655d2d6030be567c54b0b6ea926d5e391171c2d", func := "milestone/milestonelaw25.FlagTells", spec := "flagTells", inPlace := ["internal/reflectlite.ValueOf", "(internal/reflectlite.Value).Type", "(internal/reflectlite.Value).IsNil", "internal/reflectlite.TypeOf", "(internal/reflectlite.Value).Elem", "(internal/reflectlite.Value).Set"], unfollowed := true, recurses := true, named := ["errors.errorType"], plainKeys := false, apart := false, laid := [("errors.errorType", laid_errors_errorType)] }
def FlagTellsSaid : Prop := flagTellsRow.holds Tryz.pinned (OpenSpec.ofChange flagTellsSpec)

/-- ITS FALSE NEIGHBOUR: 'it returns false'. Refute it at one input. -/
def flagTellsWrong : ChangeSpec := { name := "flagTells", fn := fun _ => fun
  | [d] => { results := [.lit (.bool false)], args := [d] }
  | _ => none }
def FlagTellsWrongFalsely : Prop := flagTellsRow.holds Tryz.pinned (OpenSpec.ofChange flagTellsWrong)

/-- 'milestonelaw25.FlagOne': WHATEVER THE INPUT: true; the input reads as it did. -/
def flagOneSpec : ChangeSpec := { name := "flagOne", fn := fun _ => fun
  | [d] => { results := [.lit (.bool true)], args := [d] }
  | _ => none }
def flagOneRow : OpenClaim := { program := "ytdjlnmjcdmnllaagreatdoor", sum := "767c358c157cf2f0b936ee384655d2d6030be567c54b0b6ea926d5e391171c2d", func := "milestone/milestonelaw25.FlagOne", spec := "flagOne", inPlace := ["internal/reflectlite.ValueOf", "(internal/reflectlite.Value).Type", "(internal/reflectlite.Value).IsNil", "internal/reflectlite.TypeOf", "(internal/reflectlite.Value).Elem", "(internal/reflectlite.Value).Set"], unfollowed := true, recurses := true, named := ["errors.errorType"], plainKeys := false, apart := false, laid := [("errors.errorType", laid_errors_errorType)] }
def FlagOneSaid : Prop := flagOneRow.holds Tryz.pinned (OpenSpec.ofChange flagOneSpec)

/-- ITS FALSE NEIGHBOUR: 'it returns false'. Refute it at one input. -/
def flagOneWrong : ChangeSpec := { name := "flagOne", fn := fun _ => fun
  | [d] => { results := [.lit (.bool false)], args := [d] }
  | _ => none }
def FlagOneWrongFalsely : Prop := flagOneRow.holds Tryz.pinned (OpenSpec.ofChange flagOneWrong)

/-- 'milestonelaw25.FlagKeeps': WHATEVER THE INPUT: true; the input reads as it did. -/
def flagKeepsSpec : ChangeSpec := { name := "flagKeeps", fn := fun _ => fun
  | [d1, d2] => { results := [.lit (.bool true)], args := [d1, d2] }
  | _ => none }
def flagKeepsRow : OpenClaim := { program := "ytdjlnmjcdmnllaagreatdoor", sum := "767c358c157cf2f0b936ee384655d2d6030be567c54b0b6ea926d5e391171c2d", func := "milestone/milestonelaw25.FlagKeeps", spec := "flagKeeps", inPlace := ["internal/reflectlite.ValueOf", "(internal/reflectlite.Value).Type", "(internal/reflectlite.Value).IsNil", "internal/reflectlite.TypeOf", "(internal/reflectlite.Value).Elem", "(internal/reflectlite.Value).Set"], unfollowed := true, recurses := true, named := ["errors.errorType"], plainKeys := false, apart := false, laid := [("errors.errorType", laid_errors_errorType)] }
def FlagKeepsSaid : Prop := flagKeepsRow.holds Tryz.pinned (OpenSpec.ofChange flagKeepsSpec)

/-- ITS FALSE NEIGHBOUR: 'it returns false'. Refute it at one input. -/
def flagKeepsWrong : ChangeSpec := { name := "flagKeeps", fn := fun _ => fun
  | [d1, d2] => { results := [.lit (.bool false)], args := [d1, d2] }
  | _ => none }
def FlagKeepsWrongFalsely : Prop := flagKeepsRow.holds Tryz.pinned (OpenSpec.ofChange flagKeepsWrong)

/-- 'milestonelaw20.TwinErrors': WHATEVER THE INPUT: true; the input reads as it did. -/
def twinErrorsSpec : ChangeSpec := { name := "twinErrors", fn := fun _ => fun
  | [d1, d2, d3] => { results := [.lit (.bool true)], args := [d1, d2, d3] }
  | _ => none }
def twinErrorsRow : OpenClaim := { program := "ytdjlnmjcdmnllaagreatdoor", sum := "767c358c157cf2f0b936ee384655d2d6030be567c54b0b6ea926d5e391171c2d", func := "milestone/milestonelaw20.TwinErrors", spec := "twinErrors", inPlace := ["internal/reflectlite.ValueOf", "(internal/reflectlite.Value).Type", "(internal/reflectlite.Value).IsNil", "internal/reflectlite.TypeOf", "(internal/reflectlite.Value).Elem", "(internal/reflectlite.Value).Set"], unfollowed := true, recurses := true, named := ["errors.errorType"], plainKeys := false, apart := false, laid := [("errors.errorType", laid_errors_errorType)] }
def TwinErrorsSaid : Prop := twinErrorsRow.holds Tryz.pinned (OpenSpec.ofChange twinErrorsSpec)

/-- ITS FALSE NEIGHBOUR: 'it returns false'. Refute it at one input. -/
def twinErrorsWrong : ChangeSpec := { name := "twinErrors", fn := fun _ => fun
  | [d1, d2, d3] => { results := [.lit (.bool false)], args := [d1, d2, d3] }
  | _ => none }
def TwinErrorsWrongFalsely : Prop := twinErrorsRow.holds Tryz.pinned (OpenSpec.ofChange twinErrorsWrong)

/-- 'milestonelaw20.TwinAlike': WHATEVER THE INPUT: true; the input reads as it did. -/
def twinAlikeSpec : ChangeSpec := { name := "twinAlike", fn := fun _ => fun
  | [d1, d2, d3] => { results := [.lit (.bool true)], args := [d1, d2, d3] }
  | _ => none }
def twinAlikeRow : OpenClaim := { program := "ytdjlnmjcdmnllaagreatdoor", sum := "767c358c157cf2f0b936ee384655d2d6030be567c54b0b6ea926d5e391171c2d", func := "milestone/milestonelaw20.TwinAlike", spec := "twinAlike", inPlace := ["internal/reflectlite.ValueOf", "(internal/reflectlite.Value).Type", "(internal/reflectlite.Value).IsNil", "internal/reflectlite.TypeOf", "(internal/reflectlite.Value).Elem", "(internal/reflectlite.Value).Set"], unfollowed := true, recurses := true, named := ["errors.errorType"], plainKeys := false, apart := false, laid := [("errors.errorType", laid_errors_errorType)] }
def TwinAlikeSaid : Prop := twinAlikeRow.holds Tryz.pinned (OpenSpec.ofChange twinAlikeSpec)

/-- ITS FALSE NEIGHBOUR: 'it returns false'. Refute it at one input. -/
def twinAlikeWrong : ChangeSpec := { name := "twinAlike", fn := fun _ => fun
  | [d1, d2, d3] => { results := [.lit (.bool false)], args := [d1, d2, d3] }
  | _ => none }
def TwinAlikeWrongFalsely : Prop := twinAlikeRow.holds Tryz.pinned (OpenSpec.ofChange twinAlikeWrong)

/-- 'milestonelaw20.TwinLabels': WHATEVER THE INPUT: true; the input reads as it did. -/
def twinLabelsSpec : ChangeSpec := { name := "twinLabels", fn := fun _ => fun
  | [d] => { results := [.lit (.bool true)], args := [d] }
  | _ => none }
def twinLabelsRow : OpenClaim := { program := "ytdjlnmjcdmnllaagreatdoor", sum := "767c358c157cf2f0b936ee384655d2d6030be567c54b0b6ea926d5e391171c2d", func := "milestone/milestonelaw20.TwinLabels", spec := "twinLabels", inPlace := ["internal/reflectlite.ValueOf", "(internal/reflectlite.Value).Type", "(internal/reflectlite.Value).IsNil", "internal/reflectlite.TypeOf", "(internal/reflectlite.Value).Elem", "(internal/reflectlite.Value).Set"], unfollowed := true, recurses := true, named := ["errors.errorType"], plainKeys := false, apart := false, laid := [("errors.errorType", laid_errors_errorType)] }
def TwinLabelsSaid : Prop := twinLabelsRow.holds Tryz.pinned (OpenSpec.ofChange twinLabelsSpec)

/-- ITS FALSE NEIGHBOUR: 'it returns false'. Refute it at one input. -/
def twinLabelsWrong : ChangeSpec := { name := "twinLabels", fn := fun _ => fun
  | [d] => { results := [.lit (.bool false)], args := [d] }
  | _ => none }
def TwinLabelsWrongFalsely : Prop := twinLabelsRow.holds Tryz.pinned (OpenSpec.ofChange twinLabelsWrong)

/-- 'milestonelaw20.TwinExact': WHATEVER THE INPUT: true; the input reads as it did. -/
def twinExactSpec : ChangeSpec := { name := "twinExact", fn := fun _ => fun
  | [d] => { results := [.lit (.bool true)], args := [d] }
  | _ => none }
def twinExactRow : OpenClaim := { program := "ytdjlnmjcdmnllaagreatdoor", sum := "767c358c157cf2f0b936ee384655d2d6030be567c54b0b6ea926d5e391171c2d", func := "milestone/milestonelaw20.TwinExact", spec := "twinExact", inPlace := ["internal/reflectlite.ValueOf", "(internal/reflectlite.Value).Type", "(internal/reflectlite.Value).IsNil", "internal/reflectlite.TypeOf", "(internal/reflectlite.Value).Elem", "(internal/reflectlite.Value).Set"], unfollowed := true, recurses := true, named := ["errors.errorType"], plainKeys := false, apart := false, laid := [("errors.errorType", laid_errors_errorType)] }
def TwinExactSaid : Prop := twinExactRow.holds Tryz.pinned (OpenSpec.ofChange twinExactSpec)

/-- ITS FALSE NEIGHBOUR: 'it returns false'. Refute it at one input. -/
def twinExactWrong : ChangeSpec := { name := "twinExact", fn := fun _ => fun
  | [d] => { results := [.lit (.bool false)], args := [d] }
  | _ => none }
def TwinExactWrongFalsely : Prop := twinExactRow.holds Tryz.pinned (OpenSpec.ofChange twinExactWrong)

/-- 'milestonelaw20.TwinOnce': WHATEVER THE INPUT: true; the input reads as it did. -/
def twinOnceSpec : ChangeSpec := { name := "twinOnce", fn := fun _ => fun
  | [d] => { results := [.lit (.bool true)], args := [d] }
  | _ => none }
def twinOnceRow : OpenClaim := { program := "ytdjlnmjcdmnllaagreatdoor", sum := "767c358c157cf2f0b936ee384655d2d6030be567c54b0b6ea926d5e391171c2d", func := "milestone/milestonelaw20.TwinOnce", spec := "twinOnce", inPlace := ["internal/reflectlite.ValueOf", "(internal/reflectlite.Value).Type", "(internal/reflectlite.Value).IsNil", "internal/reflectlite.TypeOf", "(internal/reflectlite.Value).Elem", "(internal/reflectlite.Value).Set"], unfollowed := true, recurses := true, named := ["errors.errorType"], plainKeys := false, apart := false, laid := [("errors.errorType", laid_errors_errorType)] }
def TwinOnceSaid : Prop := twinOnceRow.holds Tryz.pinned (OpenSpec.ofChange twinOnceSpec)

/-- ITS FALSE NEIGHBOUR: 'it returns false'. Refute it at one input. -/
def twinOnceWrong : ChangeSpec := { name := "twinOnce", fn := fun _ => fun
  | [d] => { results := [.lit (.bool false)], args := [d] }
  | _ => none }
def TwinOnceWrongFalsely : Prop := twinOnceRow.holds Tryz.pinned (OpenSpec.ofChange twinOnceWrong)

/-- 'milestonelaw19.AltForged': WHATEVER THE INPUT: true; the input reads as it did. -/
def altForgedSpec : ChangeSpec := { name := "altForged", fn := fun _ => fun
  | [d] => { results := [.lit (.bool true)], args := [d] }
  | _ => none }
def altForgedRow : OpenClaim := { program := "ytdjlnmjcdmnllaagreatdoor", sum := "767c358c157cf2f0b936ee384655d2d6030be567c54b0b6ea926d5e391171c2d", func := "milestone/milestonelaw19.AltForged", spec := "altForged", inPlace := ["internal/reflectlite.ValueOf", "(internal/reflectlite.Value).Type", "(internal/reflectlite.Value).IsNil", "internal/reflectlite.TypeOf", "(internal/reflectlite.Value).Elem", "(internal/reflectlite.Value).Set"], unfollowed := true, recurses := true, named := ["errors.errorType"], plainKeys := false, apart := false, laid := [("errors.errorType", laid_errors_errorType)] }
def AltForgedSaid : Prop := altForgedRow.holds Tryz.pinned (OpenSpec.ofChange altForgedSpec)

/-- ITS FALSE NEIGHBOUR: 'it returns false'. Refute it at one input. -/
def altForgedWrong : ChangeSpec := { name := "altForged", fn := fun _ => fun
  | [d] => { results := [.lit (.bool false)], args := [d] }
  | _ => none }
def AltForgedWrongFalsely : Prop := altForgedRow.holds Tryz.pinned (OpenSpec.ofChange altForgedWrong)

/- THE SECOND FORM. 'bulk': how many values and letters a reading holds, each counted each time it is reached (what is shared counts as often as it is met; a slice's spare places count too). A statement '..UptoSaid' is the law's where the arguments, and the package variables that the reading takes, are together of bulk at most 1048576: NARROWER than '..Said'. Prove '..Said' where nothing that the law and all that it calls make is longer than what came in: it says more and counts as full. Else prove '..UptoSaid'. A law counts once. -/
mutual
def uptoBulk {H : Type} : DataW H → Nat
  | .lit (.string bytes) => bytes.length + 1
  | .lit _ => 1
  | .nil => 1
  | .ptr d => uptoBulk d + 1
  | .slice elems spare => uptoBulkAll elems + uptoBulkAll spare + 1
  | .agg parts => uptoBulkAll parts + 1
  | .iface _ d => uptoBulk d + 1
  | .map entries => uptoBulkEntries entries + 1
  | .held _ => 1
def uptoBulkAll {H : Type} : List (DataW H) → Nat
  | [] => 0
  | d :: r => uptoBulk d + uptoBulkAll r
def uptoBulkEntries {H : Type} : List (Lit × DataW H) → Nat
  | [] => 0
  | x :: r => uptoBulkEntry x + uptoBulkEntries r
def uptoBulkEntry {H : Type} : Lit × DataW H → Nat
  | (.string bytes, d) => bytes.length + uptoBulk d + 1
  | (_, d) => uptoBulk d + 1
 end
def uptoSmall : (H : Type) → List (DataW H) → Bool := fun _ ds => decide (uptoBulkAll ds ≤ 1048576)
def OpenSpec.upto (s : _root_.Go.ChangeSpec) : _root_.Go.OpenSpec := { _root_.Go.OpenSpec.ofChange s with cond := some uptoSmall }

/-- 'milestonelaw25.FlagTells', WHERE WHAT IT READS IS OF BULK AT MOST 1048576: true; the input reads as it did. -/
def flagTellsUptoRow : OpenClaim := { program := "ytdjlnmjcdmnllaagreatdoor", sum := "767c358c157cf2f0b936ee384655d2d6030be567c54b0b6ea926d5e391171c2d", func := "milestone/milestonelaw25.FlagTells", spec := "flagTells", inPlace := ["internal/reflectlite.ValueOf", "(internal/reflectlite.Value).Type", "(internal/reflectlite.Value).IsNil", "internal/reflectlite.TypeOf", "(internal/reflectlite.Value).Elem", "(internal/reflectlite.Value).Set"], unfollowed := true, recurses := true, named := ["errors.errorType"], plainKeys := false, apart := false, laid := [("errors.errorType", laid_errors_errorType)], narrowed := true }
def FlagTellsUptoSaid : Prop := flagTellsUptoRow.holds Tryz.pinned (OpenSpec.upto flagTellsSpec)

/-- 'milestonelaw25.FlagOne', WHERE WHAT IT READS IS OF BULK AT MOST 1048576: true; the input reads as it did. -/
def flagOneUptoRow : OpenClaim := { program := "ytdjlnmjcdmnllaagreatdoor", sum := "767c358c157cf2f0b936ee384655d2d6030be567c54b0b6ea926d5e391171c2d", func := "milestone/milestonelaw25.FlagOne", spec := "flagOne", inPlace := ["internal/reflectlite.ValueOf", "(internal/reflectlite.Value).Type", "(internal/reflectlite.Value).IsNil", "internal/reflectlite.TypeOf", "(internal/reflectlite.Value).Elem", "(internal/reflectlite.Value).Set"], unfollowed := true, recurses := true, named := ["errors.errorType"], plainKeys := false, apart := false, laid := [("errors.errorType", laid_errors_errorType)], narrowed := true }
def FlagOneUptoSaid : Prop := flagOneUptoRow.holds Tryz.pinned (OpenSpec.upto flagOneSpec)

/-- 'milestonelaw25.FlagKeeps', WHERE WHAT IT READS IS OF BULK AT MOST 1048576: true; the input reads as it did. -/
def flagKeepsUptoRow : OpenClaim := { program := "ytdjlnmjcdmnllaagreatdoor", sum := "767c358c157cf2f0b936ee384655d2d6030be567c54b0b6ea926d5e391171c2d", func := "milestone/milestonelaw25.FlagKeeps", spec := "flagKeeps", inPlace := ["internal/reflectlite.ValueOf", "(internal/reflectlite.Value).Type", "(internal/reflectlite.Value).IsNil", "internal/reflectlite.TypeOf", "(internal/reflectlite.Value).Elem", "(internal/reflectlite.Value).Set"], unfollowed := true, recurses := true, named := ["errors.errorType"], plainKeys := false, apart := false, laid := [("errors.errorType", laid_errors_errorType)], narrowed := true }
def FlagKeepsUptoSaid : Prop := flagKeepsUptoRow.holds Tryz.pinned (OpenSpec.upto flagKeepsSpec)

/-- 'milestonelaw20.TwinErrors', WHERE WHAT IT READS IS OF BULK AT MOST 1048576: true; the input reads as it did. -/
def twinErrorsUptoRow : OpenClaim := { program := "ytdjlnmjcdmnllaagreatdoor", sum := "767c358c157cf2f0b936ee384655d2d6030be567c54b0b6ea926d5e391171c2d", func := "milestone/milestonelaw20.TwinErrors", spec := "twinErrors", inPlace := ["internal/reflectlite.ValueOf", "(internal/reflectlite.Value).Type", "(internal/reflectlite.Value).IsNil", "internal/reflectlite.TypeOf", "(internal/reflectlite.Value).Elem", "(internal/reflectlite.Value).Set"], unfollowed := true, recurses := true, named := ["errors.errorType"], plainKeys := false, apart := false, laid := [("errors.errorType", laid_errors_errorType)], narrowed := true }
def TwinErrorsUptoSaid : Prop := twinErrorsUptoRow.holds Tryz.pinned (OpenSpec.upto twinErrorsSpec)

/-- 'milestonelaw20.TwinAlike', WHERE WHAT IT READS IS OF BULK AT MOST 1048576: true; the input reads as it did. -/
def twinAlikeUptoRow : OpenClaim := { program := "ytdjlnmjcdmnllaagreatdoor", sum := "767c358c157cf2f0b936ee384655d2d6030be567c54b0b6ea926d5e391171c2d", func := "milestone/milestonelaw20.TwinAlike", spec := "twinAlike", inPlace := ["internal/reflectlite.ValueOf", "(internal/reflectlite.Value).Type", "(internal/reflectlite.Value).IsNil", "internal/reflectlite.TypeOf", "(internal/reflectlite.Value).Elem", "(internal/reflectlite.Value).Set"], unfollowed := true, recurses := true, named := ["errors.errorType"], plainKeys := false, apart := false, laid := [("errors.errorType", laid_errors_errorType)], narrowed := true }
def TwinAlikeUptoSaid : Prop := twinAlikeUptoRow.holds Tryz.pinned (OpenSpec.upto twinAlikeSpec)

/-- 'milestonelaw20.TwinLabels', WHERE WHAT IT READS IS OF BULK AT MOST 1048576: true; the input reads as it did. -/
def twinLabelsUptoRow : OpenClaim := { program := "ytdjlnmjcdmnllaagreatdoor", sum := "767c358c157cf2f0b936ee384655d2d6030be567c54b0b6ea926d5e391171c2d", func := "milestone/milestonelaw20.TwinLabels", spec := "twinLabels", inPlace := ["internal/reflectlite.ValueOf", "(internal/reflectlite.Value).Type", "(internal/reflectlite.Value).IsNil", "internal/reflectlite.TypeOf", "(internal/reflectlite.Value).Elem", "(internal/reflectlite.Value).Set"], unfollowed := true, recurses := true, named := ["errors.errorType"], plainKeys := false, apart := false, laid := [("errors.errorType", laid_errors_errorType)], narrowed := true }
def TwinLabelsUptoSaid : Prop := twinLabelsUptoRow.holds Tryz.pinned (OpenSpec.upto twinLabelsSpec)

/-- 'milestonelaw20.TwinExact', WHERE WHAT IT READS IS OF BULK AT MOST 1048576: true; the input reads as it did. -/
def twinExactUptoRow : OpenClaim := { program := "ytdjlnmjcdmnllaagreatdoor", sum := "767c358c157cf2f0b936ee384655d2d6030be567c54b0b6ea926d5e391171c2d", func := "milestone/milestonelaw20.TwinExact", spec := "twinExact", inPlace := ["internal/reflectlite.ValueOf", "(internal/reflectlite.Value).Type", "(internal/reflectlite.Value).IsNil", "internal/reflectlite.TypeOf", "(internal/reflectlite.Value).Elem", "(internal/reflectlite.Value).Set"], unfollowed := true, recurses := true, named := ["errors.errorType"], plainKeys := false, apart := false, laid := [("errors.errorType", laid_errors_errorType)], narrowed := true }
def TwinExactUptoSaid : Prop := twinExactUptoRow.holds Tryz.pinned (OpenSpec.upto twinExactSpec)

/-- 'milestonelaw20.TwinOnce', WHERE WHAT IT READS IS OF BULK AT MOST 1048576: true; the input reads as it did. -/
def twinOnceUptoRow : OpenClaim := { program := "ytdjlnmjcdmnllaagreatdoor", sum := "767c358c157cf2f0b936ee384655d2d6030be567c54b0b6ea926d5e391171c2d", func := "milestone/milestonelaw20.TwinOnce", spec := "twinOnce", inPlace := ["internal/reflectlite.ValueOf", "(internal/reflectlite.Value).Type", "(internal/reflectlite.Value).IsNil", "internal/reflectlite.TypeOf", "(internal/reflectlite.Value).Elem", "(internal/reflectlite.Value).Set"], unfollowed := true, recurses := true, named := ["errors.errorType"], plainKeys := false, apart := false, laid := [("errors.errorType", laid_errors_errorType)], narrowed := true }
def TwinOnceUptoSaid : Prop := twinOnceUptoRow.holds Tryz.pinned (OpenSpec.upto twinOnceSpec)

/-- 'milestonelaw19.AltForged', WHERE WHAT IT READS IS OF BULK AT MOST 1048576: true; the input reads as it did. -/
def altForgedUptoRow : OpenClaim := { program := "ytdjlnmjcdmnllaagreatdoor", sum := "767c358c157cf2f0b936ee384655d2d6030be567c54b0b6ea926d5e391171c2d", func := "milestone/milestonelaw19.AltForged", spec := "altForged", inPlace := ["internal/reflectlite.ValueOf", "(internal/reflectlite.Value).Type", "(internal/reflectlite.Value).IsNil", "internal/reflectlite.TypeOf", "(internal/reflectlite.Value).Elem", "(internal/reflectlite.Value).Set"], unfollowed := true, recurses := true, named := ["errors.errorType"], plainKeys := false, apart := false, laid := [("errors.errorType", laid_errors_errorType)], narrowed := true }
def AltForgedUptoSaid : Prop := altForgedUptoRow.holds Tryz.pinned (OpenSpec.upto altForgedSpec)

end Rows
end Go.Proofs.YtdjlnmjcdmnllaaGreatDoor
