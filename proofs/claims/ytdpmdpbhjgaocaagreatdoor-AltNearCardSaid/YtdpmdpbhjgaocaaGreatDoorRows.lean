/-
  NARROWER THAN 'FOR EVERY INPUT', by the rows' own cells (each row's printed sentence says how): AltExact: laid · AltNear: laid · AltWrong: laid · AltFewer: laid · AltForged: laid.
  DERIVED. THE GIVEN ROWS OF THIS SEAT. 5 by the template 'for every input the law returns true; each argument reads behind the call as it read before'; 0 by the template 'total and deterministic' (their statements: YtdpmdpbhjgaocaaGreatDoorTotals.lean).
  GIVEN WITH THE SEED: the statements are not yours to turn. If you find one false, say at which input.
  Laid BY PROGRAM, IN A SANDBOX (cutbox-rows.mjs): the forced cells as the released guide's own fill.sh prints them over the translation 0382fb557a503120… (all of the seat's roots in one cut). By AI agents, Wed Nov 11 2026. No macro, syntax, notation, axiom, sorry.
-/
import Derived.Test.YtdpmdpbhjgaocaaGreatDoorChecked
import GoSem.Claim
import GoSem.ClaimJoined
import GoSem.ClaimMapViews
import Derived.JoinedTies
import Derived.KernelRfl
namespace Go.Proofs.YtdpmdpbhjgaocaaGreatDoor
/- THE CELL 'sum', in the pinned program and in every row, IS THE sha256 OF THE DUMP (.gsa) THAT YtdpmdpbhjgaocaaGreatDoorProg.lean LOADS. Nothing in Lean hashes anything: it is a label: what it is worth is what the hold of that sum in a sandbox is worth. -/
noncomputable def Tryz.pinned : Pinned := { name := "ytdpmdpbhjgaocaagreatdoor", sum := "0382fb557a50312069c1cab0b40854dc6a8fb45174a20a5bcb2801585dcc88df", checked := Tryz.checked }
namespace Rows
def none {H : Type} : Left H := { results := [], args := [] }

/- WHAT THE LISTED PACKAGE-LEVEL VARIABLES READ AS WHEN THE CALL BEGINS. Each datum BY PROGRAM (the guide's laid-datum.mjs) off the statement by which the dump's own 'gosem.cut.vars' lays the variable. In a bare row this is a premise. The card (YtdpmdpbhjgaocaaGreatDoorCards.lean) ties it to the program's text. -/
def laid_errors_errorType {H : Type} : DataW H := .iface "internal/reflectlite.rtype" (.agg [.ptr (.lit (.string [101, 114, 114, 111, 114]))])

/-- 'milestonelaw19.AltExact': WHATEVER THE INPUT: true; the input reads as it did. -/
def altExactSpec : ChangeSpec := { name := "altExact", fn := fun _ => fun
  | [d] => { results := [.lit (.bool true)], args := [d] }
  | _ => none }
def altExactRow : OpenClaim := { program := "ytdpmdpbhjgaocaagreatdoor", sum := "0382fb557a50312069c1cab0b40854dc6a8fb45174a20a5bcb2801585dcc88df", func := "milestone/milestonelaw19.AltExact", spec := "altExact", inPlace := ["internal/reflectlite.ValueOf", "(internal/reflectlite.Value).Type", "(internal/reflectlite.Value).IsNil", "internal/reflectlite.TypeOf", "(internal/reflectlite.Value).Elem", "(internal/reflectlite.Value).Set"], unfollowed := true, recurses := true, named := ["errors.errorType"], plainKeys := false, apart := false, laid := [("errors.errorType", laid_errors_errorType)] }
def AltExactSaid : Prop := altExactRow.holds Tryz.pinned (OpenSpec.ofChange altExactSpec)

/-- ITS FALSE NEIGHBOUR: 'it returns false'. Refute it at one input. -/
def altExactWrong : ChangeSpec := { name := "altExact", fn := fun _ => fun
  | [d] => { results := [.lit (.bool false)], args := [d] }
  | _ => none }
def AltExactWrongFalsely : Prop := altExactRow.holds Tryz.pinned (OpenSpec.ofChange altExactWrong)

/-- 'milestonelaw19.AltNear': WHATEVER THE INPUT: true; the input reads as it did. -/
def altNearSpec : ChangeSpec := { name := "altNear", fn := fun _ => fun
  | [d] => { results := [.lit (.bool true)], args := [d] }
  | _ => none }
def altNearRow : OpenClaim := { program := "ytdpmdpbhjgaocaagreatdoor", sum := "0382fb557a50312069c1cab0b40854dc6a8fb45174a20a5bcb2801585dcc88df", func := "milestone/milestonelaw19.AltNear", spec := "altNear", inPlace := ["internal/reflectlite.ValueOf", "(internal/reflectlite.Value).Type", "(internal/reflectlite.Value).IsNil", "internal/reflectlite.TypeOf", "(internal/reflectlite.Value).Elem", "(internal/reflectlite.Value).Set"], unfollowed := true, recurses := true, named := ["errors.errorType"], plainKeys := false, apart := false, laid := [("errors.errorType", laid_errors_errorType)] }
def AltNearSaid : Prop := altNearRow.holds Tryz.pinned (OpenSpec.ofChange altNearSpec)

/-- ITS FALSE NEIGHBOUR: 'it returns false'. Refute it at one input. -/
def altNearWrong : ChangeSpec := { name := "altNear", fn := fun _ => fun
  | [d] => { results := [.lit (.bool false)], args := [d] }
  | _ => none }
def AltNearWrongFalsely : Prop := altNearRow.holds Tryz.pinned (OpenSpec.ofChange altNearWrong)

/-- 'milestonelaw19.AltWrong': WHATEVER THE INPUT: true; the input reads as it did. -/
def altWrongSpec : ChangeSpec := { name := "altWrong", fn := fun _ => fun
  | [d1, d2] => { results := [.lit (.bool true)], args := [d1, d2] }
  | _ => none }
def altWrongRow : OpenClaim := { program := "ytdpmdpbhjgaocaagreatdoor", sum := "0382fb557a50312069c1cab0b40854dc6a8fb45174a20a5bcb2801585dcc88df", func := "milestone/milestonelaw19.AltWrong", spec := "altWrong", inPlace := ["internal/reflectlite.ValueOf", "(internal/reflectlite.Value).Type", "(internal/reflectlite.Value).IsNil", "internal/reflectlite.TypeOf", "(internal/reflectlite.Value).Elem", "(internal/reflectlite.Value).Set"], unfollowed := true, recurses := true, named := ["errors.errorType"], plainKeys := false, apart := false, laid := [("errors.errorType", laid_errors_errorType)] }
def AltWrongSaid : Prop := altWrongRow.holds Tryz.pinned (OpenSpec.ofChange altWrongSpec)

/-- ITS FALSE NEIGHBOUR: 'it returns false'. Refute it at one input. -/
def altWrongWrong : ChangeSpec := { name := "altWrong", fn := fun _ => fun
  | [d1, d2] => { results := [.lit (.bool false)], args := [d1, d2] }
  | _ => none }
def AltWrongWrongFalsely : Prop := altWrongRow.holds Tryz.pinned (OpenSpec.ofChange altWrongWrong)

/-- 'milestonelaw19.AltFewer': WHATEVER THE INPUT: true; the input reads as it did. -/
def altFewerSpec : ChangeSpec := { name := "altFewer", fn := fun _ => fun
  | [d] => { results := [.lit (.bool true)], args := [d] }
  | _ => none }
def altFewerRow : OpenClaim := { program := "ytdpmdpbhjgaocaagreatdoor", sum := "0382fb557a50312069c1cab0b40854dc6a8fb45174a20a5bcb2801585dcc88df", func := "milestone/milestonelaw19.AltFewer", spec := "altFewer", inPlace := ["internal/reflectlite.ValueOf", "(internal/reflectlite.Value).Type", "(internal/reflectlite.Value).IsNil", "internal/reflectlite.TypeOf", "(internal/reflectlite.Value).Elem", "(internal/reflectlite.Value).Set"], unfollowed := true, recurses := true, named := ["errors.errorType"], plainKeys := false, apart := false, laid := [("errors.errorType", laid_errors_errorType)] }
def AltFewerSaid : Prop := altFewerRow.holds Tryz.pinned (OpenSpec.ofChange altFewerSpec)

/-- ITS FALSE NEIGHBOUR: 'it returns false'. Refute it at one input. -/
def altFewerWrong : ChangeSpec := { name := "altFewer", fn := fun _ => fun
  | [d] => { results := [.lit (.bool false)], args := [d] }
  | _ => none }
def AltFewerWrongFalsely : Prop := altFewerRow.holds Tryz.pinned (OpenSpec.ofChange altFewerWrong)

/-- 'milestonelaw19.AltForged': WHATEVER THE INPUT: true; the input reads as it did. -/
def altForgedSpec : ChangeSpec := { name := "altForged", fn := fun _ => fun
  | [d] => { results := [.lit (.bool true)], args := [d] }
  | _ => none }
def altForgedRow : OpenClaim := { program := "ytdpmdpbhjgaocaagreatdoor", sum := "0382fb557a50312069c1cab0b40854dc6a8fb45174a20a5bcb2801585dcc88df", func := "milestone/milestonelaw19.AltForged", spec := "altForged", inPlace := ["internal/reflectlite.ValueOf", "(internal/reflectlite.Value).Type", "(internal/reflectlite.Value).IsNil", "internal/reflectlite.TypeOf", "(internal/reflectlite.Value).Elem", "(internal/reflectlite.Value).Set"], unfollowed := true, recurses := true, named := ["errors.errorType"], plainKeys := false, apart := false, laid := [("errors.errorType", laid_errors_errorType)] }
def AltForgedSaid : Prop := altForgedRow.holds Tryz.pinned (OpenSpec.ofChange altForgedSpec)

/-- ITS FALSE NEIGHBOUR: 'it returns false'. Refute it at one input. -/
def altForgedWrong : ChangeSpec := { name := "altForged", fn := fun _ => fun
  | [d] => { results := [.lit (.bool false)], args := [d] }
  | _ => none }
def AltForgedWrongFalsely : Prop := altForgedRow.holds Tryz.pinned (OpenSpec.ofChange altForgedWrong)

/- THE SECOND FORM. 'bulk': how many values and letters a reading holds, each counted each time it is reached (what is shared counts as often as it is met; a slice's spare places count too). A statement '..UptoSaid' is the law's where the arguments, and the package variables that the reading takes, are together of bulk at most 1048576: NARROWER than '..Said'. Prove '..Said' where nothing that the law and all that it calls make is longer than what came in: it says more and counts as full. Else prove '..UptoSaid'. A law counts once. -/
mutual
def uptoBulk {H : Type} : DataW H → Nat
  | .lit (.string bytes) => bytes.length + 1
  | .lit _ => 1
  | .nil => 1
  | .ptr d => uptoBulk d + 1
  | .slice elems spare => uptoBulkAll elems + uptoBulkAll spare + 1
  | .agg parts => uptoBulkAll parts + 1
  | .iface _ d => uptoBulk d + 1
  | .map entries => uptoBulkEntries entries + 1
  | .held _ => 1
def uptoBulkAll {H : Type} : List (DataW H) → Nat
  | [] => 0
  | d :: r => uptoBulk d + uptoBulkAll r
def uptoBulkEntries {H : Type} : List (Lit × DataW H) → Nat
  | [] => 0
  | x :: r => uptoBulkEntry x + uptoBulkEntries r
def uptoBulkEntry {H : Type} : Lit × DataW H → Nat
  | (.string bytes, d) => bytes.length + uptoBulk d + 1
  | (_, d) => uptoBulk d + 1
 end
def uptoSmall : (H : Type) → List (DataW H) → Bool := fun _ ds => decide (uptoBulkAll ds ≤ 1048576)
def OpenSpec.upto (s : _root_.Go.ChangeSpec) : _root_.Go.OpenSpec := { _root_.Go.OpenSpec.ofChange s with cond := some uptoSmall }

/-- 'milestonelaw19.AltExact', WHERE WHAT IT READS IS OF BULK AT MOST 1048576: true; the input reads as it did. -/
def altExactUptoRow : OpenClaim := { program := "ytdpmdpbhjgaocaagreatdoor", sum := "0382fb557a50312069c1cab0b40854dc6a8fb45174a20a5bcb2801585dcc88df", func := "milestone/milestonelaw19.AltExact", spec := "altExact", inPlace := ["internal/reflectlite.ValueOf", "(internal/reflectlite.Value).Type", "(internal/reflectlite.Value).IsNil", "internal/reflectlite.TypeOf", "(internal/reflectlite.Value).Elem", "(internal/reflectlite.Value).Set"], unfollowed := true, recurses := true, named := ["errors.errorType"], plainKeys := false, apart := false, laid := [("errors.errorType", laid_errors_errorType)], narrowed := true }
def AltExactUptoSaid : Prop := altExactUptoRow.holds Tryz.pinned (OpenSpec.upto altExactSpec)

/-- 'milestonelaw19.AltNear', WHERE WHAT IT READS IS OF BULK AT MOST 1048576: true; the input reads as it did. -/
def altNearUptoRow : OpenClaim := { program := "ytdpmdpbhjgaocaagreatdoor", sum := "0382fb557a50312069c1cab0b40854dc6a8fb45174a20a5bcb2801585dcc88df", func := "milestone/milestonelaw19.AltNear", spec := "altNear", inPlace := ["internal/reflectlite.ValueOf", "(internal/reflectlite.Value).Type", "(internal/reflectlite.Value).IsNil", "internal/reflectlite.TypeOf", "(internal/reflectlite.Value).Elem", "(internal/reflectlite.Value).Set"], unfollowed := true, recurses := true, named := ["errors.errorType"], plainKeys := false, apart := false, laid := [("errors.errorType", laid_errors_errorType)], narrowed := true }
def AltNearUptoSaid : Prop := altNearUptoRow.holds Tryz.pinned (OpenSpec.upto altNearSpec)

/-- 'milestonelaw19.AltWrong', WHERE WHAT IT READS IS OF BULK AT MOST 1048576: true; the input reads as it did. -/
def altWrongUptoRow : OpenClaim := { program := "ytdpmdpbhjgaocaagreatdoor", sum := "0382fb557a50312069c1cab0b40854dc6a8fb45174a20a5bcb2801585dcc88df", func := "milestone/milestonelaw19.AltWrong", spec := "altWrong", inPlace := ["internal/reflectlite.ValueOf", "(internal/reflectlite.Value).Type", "(internal/reflectlite.Value).IsNil", "internal/reflectlite.TypeOf", "(internal/reflectlite.Value).Elem", "(internal/reflectlite.Value).Set"], unfollowed := true, recurses := true, named := ["errors.errorType"], plainKeys := false, apart := false, laid := [("errors.errorType", laid_errors_errorType)], narrowed := true }
def AltWrongUptoSaid : Prop := altWrongUptoRow.holds Tryz.pinned (OpenSpec.upto altWrongSpec)

/-- 'milestonelaw19.AltFewer', WHERE WHAT IT READS IS OF BULK AT MOST 1048576: true; the input reads as it did. -/
def altFewerUptoRow : OpenClaim := { program := "ytdpmdpbhjgaocaagreatdoor", sum := "0382fb557a50312069c1cab0b40854dc6a8fb45174a20a5bcb2801585dcc88df", func := "milestone/milestonelaw19.AltFewer", spec := "altFewer", inPlace := ["internal/reflectlite.ValueOf", "(internal/reflectlite.Value).Type", "(internal/reflectlite.Value).IsNil", "internal/reflectlite.TypeOf", "(internal/reflectlite.Value).Elem", "(internal/reflectlite.Value).Set"], unfollowed := true, recurses := true, named := ["errors.errorType"], plainKeys := false, apart := false, laid := [("errors.errorType", laid_errors_errorType)], narrowed := true }
def AltFewerUptoSaid : Prop := altFewerUptoRow.holds Tryz.pinned (OpenSpec.upto altFewerSpec)

/-- 'milestonelaw19.AltForged', WHERE WHAT IT READS IS OF BULK AT MOST 1048576: true; the input reads as it did. -/
def altForgedUptoRow : OpenClaim := { program := "ytdpmdpbhjgaocaagreatdoor", sum := "0382fb557a50312069c1cab0b40854dc6a8fb45174a20a5bcb2801585dcc88df", func := "milestone/milestonelaw19.AltForged", spec := "altForged", inPlace := ["internal/reflectlite.ValueOf", "(internal/reflectlite.Value).Type", "(internal/reflectlite.Value).IsNil", "internal/reflectlite.TypeOf", "(internal/reflectlite.Value).Elem", "(internal/reflectlite.Value).Set"], unfollowed := true, recurses := true, named := ["errors.errorType"], plainKeys := false, apart := false, laid := [("errors.errorType", laid_errors_errorType)], narrowed := true }
def AltForgedUptoSaid : Prop := altForgedUptoRow.holds Tryz.pinned (OpenSpec.upto altForgedSpec)

end Rows
end Go.Proofs.YtdpmdpbhjgaocaaGreatDoor
