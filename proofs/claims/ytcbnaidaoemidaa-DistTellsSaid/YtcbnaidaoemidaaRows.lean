/-
  No cell of these rows narrows 'for every input' (looked for: loops, veiled, ifaces, maps, wideKeys, modest, calm, conditions, laid).
  DERIVED. THE GIVEN ROWS OF THIS SEAT. 5 by the template 'for every input the law returns true; each argument reads behind the call as it read before'; 0 by the template 'total and deterministic' (their statements: YtcbnaidaoemidaaTotals.lean).
  GIVEN WITH THE SEED: the statements are not yours to turn. If you find one false, say at which input.
  Laid BY PROGRAM, IN A SANDBOX (cutbox-rows.mjs): the forced cells as the released guide's own fill.sh prints them over the translation db86ee452d43b6de… (all of the seat's roots in one cut). By AI agents, Wed Nov 11 2026. No macro, syntax, notation, axiom, sorry.
-/
import Derived.Test.YtcbnaidaoemidaaChecked
import GoSem.Claim
import GoSem.ClaimJoined
import GoSem.ClaimMapViews
import Derived.JoinedTies
import Derived.KernelRfl
namespace Go.Proofs.Ytcbnaidaoemidaa
/- THE CELL 'sum', in the pinned program and in every row, IS THE sha256 OF THE DUMP (.gsa) THAT YtcbnaidaoemidaaProg.lean LOADS. Nothing in Lean hashes anything: it is a label: what it is worth is what the hold of that sum in a sandbox is worth. -/
noncomputable def Try.pinned : Pinned := { name := "ytcbnaidaoemidaa", sum := "db86ee452d43b6de8dbed8f9329afae82d5e8ccdbc4366039f2c30bc26990f00", checked := Try.checked }
namespace Rows
def none {H : Type} : Left H := { results := [], args := [] }

/-- 'milestonelaw04.DistTells': WHATEVER THE INPUT: true; the input reads as it did. -/
def distTellsSpec : ChangeSpec := { name := "distTells", fn := fun _ => fun
  | [d1, d2] => { results := [.lit (.bool true)], args := [d1, d2] }
  | _ => none }
def distTellsRow : OpenClaim := { program := "ytcbnaidaoemidaa", sum := "db86ee452d43b6de8dbed8f9329afae82d5e8ccdbc4366039f2c30bc26990f00", func := "milestone/milestonelaw04.DistTells", spec := "distTells", unfollowed := true, recurses := true, apart := false }
def DistTellsSaid : Prop := distTellsRow.holds Try.pinned (OpenSpec.ofChange distTellsSpec)

/-- ITS FALSE NEIGHBOUR: 'it returns false'. Refute it at one input. -/
def distTellsWrong : ChangeSpec := { name := "distTells", fn := fun _ => fun
  | [d1, d2] => { results := [.lit (.bool false)], args := [d1, d2] }
  | _ => none }
def DistTellsWrongFalsely : Prop := distTellsRow.holds Try.pinned (OpenSpec.ofChange distTellsWrong)

/-- 'milestonelaw04.DistBounds': WHATEVER THE INPUT: true; the input reads as it did. -/
def distBoundsSpec : ChangeSpec := { name := "distBounds", fn := fun _ => fun
  | [d1, d2] => { results := [.lit (.bool true)], args := [d1, d2] }
  | _ => none }
def distBoundsRow : OpenClaim := { program := "ytcbnaidaoemidaa", sum := "db86ee452d43b6de8dbed8f9329afae82d5e8ccdbc4366039f2c30bc26990f00", func := "milestone/milestonelaw04.DistBounds", spec := "distBounds", unfollowed := true, recurses := true, apart := false }
def DistBoundsSaid : Prop := distBoundsRow.holds Try.pinned (OpenSpec.ofChange distBoundsSpec)

/-- ITS FALSE NEIGHBOUR: 'it returns false'. Refute it at one input. -/
def distBoundsWrong : ChangeSpec := { name := "distBounds", fn := fun _ => fun
  | [d1, d2] => { results := [.lit (.bool false)], args := [d1, d2] }
  | _ => none }
def DistBoundsWrongFalsely : Prop := distBoundsRow.holds Try.pinned (OpenSpec.ofChange distBoundsWrong)

/-- 'milestonelaw04.DistStep': WHATEVER THE INPUT: true; the input reads as it did. -/
def distStepSpec : ChangeSpec := { name := "distStep", fn := fun _ => fun
  | [d1, d2, d3] => { results := [.lit (.bool true)], args := [d1, d2, d3] }
  | _ => none }
def distStepRow : OpenClaim := { program := "ytcbnaidaoemidaa", sum := "db86ee452d43b6de8dbed8f9329afae82d5e8ccdbc4366039f2c30bc26990f00", func := "milestone/milestonelaw04.DistStep", spec := "distStep", unfollowed := true, recurses := true, apart := false }
def DistStepSaid : Prop := distStepRow.holds Try.pinned (OpenSpec.ofChange distStepSpec)

/-- ITS FALSE NEIGHBOUR: 'it returns false'. Refute it at one input. -/
def distStepWrong : ChangeSpec := { name := "distStep", fn := fun _ => fun
  | [d1, d2, d3] => { results := [.lit (.bool false)], args := [d1, d2, d3] }
  | _ => none }
def DistStepWrongFalsely : Prop := distStepRow.holds Try.pinned (OpenSpec.ofChange distStepWrong)

/-- 'milestonelaw04.DistSums': WHATEVER THE INPUT: true; the input reads as it did. -/
def distSumsSpec : ChangeSpec := { name := "distSums", fn := fun _ => fun
  | [d1, d2, d3] => { results := [.lit (.bool true)], args := [d1, d2, d3] }
  | _ => none }
def distSumsRow : OpenClaim := { program := "ytcbnaidaoemidaa", sum := "db86ee452d43b6de8dbed8f9329afae82d5e8ccdbc4366039f2c30bc26990f00", func := "milestone/milestonelaw04.DistSums", spec := "distSums", unfollowed := true, recurses := true, apart := false }
def DistSumsSaid : Prop := distSumsRow.holds Try.pinned (OpenSpec.ofChange distSumsSpec)

/-- ITS FALSE NEIGHBOUR: 'it returns false'. Refute it at one input. -/
def distSumsWrong : ChangeSpec := { name := "distSums", fn := fun _ => fun
  | [d1, d2, d3] => { results := [.lit (.bool false)], args := [d1, d2, d3] }
  | _ => none }
def DistSumsWrongFalsely : Prop := distSumsRow.holds Try.pinned (OpenSpec.ofChange distSumsWrong)

/-- 'milestonelaw04.DistKnown': WHATEVER THE INPUT: true; the input reads as it did. -/
def distKnownSpec : ChangeSpec := { name := "distKnown", fn := fun _ => fun
  | [] => { results := [.lit (.bool true)], args := [] }
  | _ => none }
def distKnownRow : OpenClaim := { program := "ytcbnaidaoemidaa", sum := "db86ee452d43b6de8dbed8f9329afae82d5e8ccdbc4366039f2c30bc26990f00", func := "milestone/milestonelaw04.DistKnown", spec := "distKnown", unfollowed := true, recurses := true, apart := false }
def DistKnownSaid : Prop := distKnownRow.holds Try.pinned (OpenSpec.ofChange distKnownSpec)

/-- ITS FALSE NEIGHBOUR: 'it returns false'. Refute it at one input. -/
def distKnownWrong : ChangeSpec := { name := "distKnown", fn := fun _ => fun
  | [] => { results := [.lit (.bool false)], args := [] }
  | _ => none }
def DistKnownWrongFalsely : Prop := distKnownRow.holds Try.pinned (OpenSpec.ofChange distKnownWrong)

/- THE SECOND FORM. 'bulk': how many values and letters a reading holds, each counted each time it is reached (what is shared counts as often as it is met; a slice's spare places count too). A statement '..UptoSaid' is the law's where the arguments, and the package variables that the reading takes, are together of bulk at most 1048576: NARROWER than '..Said'. Prove '..Said' where nothing that the law and all that it calls make is longer than what came in: it says more and counts as full. Else prove '..UptoSaid'. A law counts once. -/
mutual
def uptoBulk {H : Type} : DataW H → Nat
  | .lit (.string bytes) => bytes.length + 1
  | .lit _ => 1
  | .nil => 1
  | .ptr d => uptoBulk d + 1
  | .slice elems spare => uptoBulkAll elems + uptoBulkAll spare + 1
  | .agg parts => uptoBulkAll parts + 1
  | .iface _ d => uptoBulk d + 1
  | .map entries => uptoBulkEntries entries + 1
  | .held _ => 1
def uptoBulkAll {H : Type} : List (DataW H) → Nat
  | [] => 0
  | d :: r => uptoBulk d + uptoBulkAll r
def uptoBulkEntries {H : Type} : List (Lit × DataW H) → Nat
  | [] => 0
  | x :: r => uptoBulkEntry x + uptoBulkEntries r
def uptoBulkEntry {H : Type} : Lit × DataW H → Nat
  | (.string bytes, d) => bytes.length + uptoBulk d + 1
  | (_, d) => uptoBulk d + 1
 end
def uptoSmall : (H : Type) → List (DataW H) → Bool := fun _ ds => decide (uptoBulkAll ds ≤ 1048576)
def OpenSpec.upto (s : _root_.Go.ChangeSpec) : _root_.Go.OpenSpec := { _root_.Go.OpenSpec.ofChange s with cond := some uptoSmall }

/-- 'milestonelaw04.DistTells', WHERE WHAT IT READS IS OF BULK AT MOST 1048576: true; the input reads as it did. -/
def distTellsUptoRow : OpenClaim := { program := "ytcbnaidaoemidaa", sum := "db86ee452d43b6de8dbed8f9329afae82d5e8ccdbc4366039f2c30bc26990f00", func := "milestone/milestonelaw04.DistTells", spec := "distTells", unfollowed := true, recurses := true, apart := false, narrowed := true }
def DistTellsUptoSaid : Prop := distTellsUptoRow.holds Try.pinned (OpenSpec.upto distTellsSpec)

/-- 'milestonelaw04.DistBounds', WHERE WHAT IT READS IS OF BULK AT MOST 1048576: true; the input reads as it did. -/
def distBoundsUptoRow : OpenClaim := { program := "ytcbnaidaoemidaa", sum := "db86ee452d43b6de8dbed8f9329afae82d5e8ccdbc4366039f2c30bc26990f00", func := "milestone/milestonelaw04.DistBounds", spec := "distBounds", unfollowed := true, recurses := true, apart := false, narrowed := true }
def DistBoundsUptoSaid : Prop := distBoundsUptoRow.holds Try.pinned (OpenSpec.upto distBoundsSpec)

/-- 'milestonelaw04.DistStep', WHERE WHAT IT READS IS OF BULK AT MOST 1048576: true; the input reads as it did. -/
def distStepUptoRow : OpenClaim := { program := "ytcbnaidaoemidaa", sum := "db86ee452d43b6de8dbed8f9329afae82d5e8ccdbc4366039f2c30bc26990f00", func := "milestone/milestonelaw04.DistStep", spec := "distStep", unfollowed := true, recurses := true, apart := false, narrowed := true }
def DistStepUptoSaid : Prop := distStepUptoRow.holds Try.pinned (OpenSpec.upto distStepSpec)

/-- 'milestonelaw04.DistSums', WHERE WHAT IT READS IS OF BULK AT MOST 1048576: true; the input reads as it did. -/
def distSumsUptoRow : OpenClaim := { program := "ytcbnaidaoemidaa", sum := "db86ee452d43b6de8dbed8f9329afae82d5e8ccdbc4366039f2c30bc26990f00", func := "milestone/milestonelaw04.DistSums", spec := "distSums", unfollowed := true, recurses := true, apart := false, narrowed := true }
def DistSumsUptoSaid : Prop := distSumsUptoRow.holds Try.pinned (OpenSpec.upto distSumsSpec)

/-- 'milestonelaw04.DistKnown', WHERE WHAT IT READS IS OF BULK AT MOST 1048576: true; the input reads as it did. -/
def distKnownUptoRow : OpenClaim := { program := "ytcbnaidaoemidaa", sum := "db86ee452d43b6de8dbed8f9329afae82d5e8ccdbc4366039f2c30bc26990f00", func := "milestone/milestonelaw04.DistKnown", spec := "distKnown", unfollowed := true, recurses := true, apart := false, narrowed := true }
def DistKnownUptoSaid : Prop := distKnownUptoRow.holds Try.pinned (OpenSpec.upto distKnownSpec)

end Rows
end Go.Proofs.Ytcbnaidaoemidaa
