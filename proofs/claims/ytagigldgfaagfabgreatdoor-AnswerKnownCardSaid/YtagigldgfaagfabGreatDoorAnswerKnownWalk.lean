/- The closed law AnswerKnown holds: called in whatever memory and on every schedule it returns true, and what was there stays. No condition of its own. -/
import Derived.Test.YtagigldgfaagfabGreatDoorAnswerKnownWorks
import Derived.Test.YtagigldgfaagfabGreatDoorRows
import Derived.Test.YtagigldgfaagfabGreatDoorCards
import Derived.Test.YtagigldgfaagfabGreatDoorTie
import Derived.LaidLaws
import Derived.LaidHandle
import Derived.Stop.Joined
import Derived.SevenTiedAt
import Derived.RowKit
import Derived.RowKitTokens
import Derived.WalkKit
import Derived.ProofKit
import Derived.OpenShut
set_option maxHeartbeats 4000000
namespace Go.Proofs.YtagigldgfaagfabGreatDoor.answerKnown
open Go.ChangeShapes Go.WideShapes Go.ChangeAt Go.RowKit
theorem own : ownKnob Tryz.prog.godebug = none := by kernel_rfl
def isTrue (r : Option (Go.Ab.Out × Option (Value × Bool) × Go.Ab.Hp)) : Bool := match r with
  | some (.ret (.bool true), _, _) => true
  | _ => false
theorem isTrue_ret {r : Option (Go.Ab.Out × Option (Value × Bool) × Go.Ab.Hp)} (h : isTrue r = true) : ∃ rc h', r = some (.ret (.bool true), rc, h') := by
  unfold isTrue at h
  split at h
  · exact ⟨_, _, rfl⟩
  · cases h
set_option maxRecDepth 100000 in
theorem known : isTrue ((Go.Ab.runK env2 5000).call 3 [] none Go.Ab.hp0) = true := by kernel_rfl
theorem walk (w : World) : Calls Tryz.prog 3 #[] w fun e w' => e = .returned (.bool true) ∧ Go.Ab.Kept w w' := by
  obtain ⟨rc, h', hr⟩ := isTrue_ret known
  rw [Go.Ab.runK_call] at hr
  refine Calls.mono (Go.Ab.calls_run ok2 (args := []) rfl hr w) ?_
  intro e w' ⟨_, v', hv, he, hk⟩
  cases hv
  exact ⟨he, hk⟩
/-- A world that meets the row's condition: the settled one, the variable's cell laid. -/
noncomputable def laidWorld (os : Os) : World :=
  let w0 := World.holding Tryz.prog os ⟨#[], #[], []⟩
  { w0 with heap := w0.heap.modify 0 fun
      | .cells _ t frozen => .cells #[.iface 283 (.agg #[.pointer (some ⟨1, 49, none⟩)])] t frozen
      | o => o }
theorem laidWorld_met (os : Os) (args : Array Value) : laidMetH Tryz.prog [("errors.errorType", Rows.laid_errors_errorType)] ((laidWorld os).forCall (fun _ _ => 0) ⟨#[], args, []⟩).memory :=
  laidMetH_of_parts (laidMet_nil _ _) (by kernel_rfl)
set_option maxRecDepth 100000 in
theorem lifted (os : Os) (started : os.Started) (H : Type) (enc : TypeId × Value → H) :
    ReturnsInHanded {} Tryz.checked os 3 .any (fun w args => (Rows.answerKnownSpec.pre enc Tryz.prog Tryz.f3 [] false w args ∧ laidMetH Tryz.prog [("errors.errorType", Rows.laid_errors_errorType)] w) ∧ sizedMet enc Tryz.prog Tryz.f3 (OpenSpec.ofChange Rows.answerKnownSpec) false w args)
      (Rows.answerKnownSpec.post enc Tryz.prog Tryz.f3 false true false false) := by
  refine returnsInHanded_of_change_and (C := Tryz.checked) (X := fun w _ => laidMetH Tryz.prog [("errors.errorType", Rows.laid_errors_errorType)] w) (fun _ _ _ hh h => h.of_heap hh) own started (by kernel_rfl) Tryz.func3
    (ChangeSpec.witness_at (enc := enc) (C := Tryz.checked) (os := os) (X := fun w _ => laidMetH Tryz.prog [("errors.errorType", Rows.laid_errors_errorType)] w) false (laidWorld os) #[] 8 rfl (by kernel_rfl) (by kernel_rfl) (by kernel_rfl) (by kernel_rfl) (by kernel_rfl) (laidWorld_met os _)) ?_
  intro W base args ds gs before hval0 hW _ _ _ _
  have hW' := hW
  obtain ⟨p, q, hA0, hV, rfl, hfz, hnd⟩ := hW
  have hA : DataW.TrodAll enc Tryz.prog W 0 (fun _ => true) true Tryz.f3.params.toList args.toList ds p := hA0
  rw [Tryz.params3] at hA
  obtain ⟨rfl, rfl, rfl⟩ := trodAll_none hA
  obtain ⟨rfl, rfl⟩ := trodVars_none hV
  clear hA0 hval0
  simp only [List.append_nil] at hW'
  refine (walk W).mono fun e W' ⟨he, hg⟩ => ?_
  subst he
  exact ⟨_, rfl, Go.Ab.post_of_kept (pa := []) (pv := []) hW' (fun _ _ _ => (trodAll_cons_mk (shut_bool Tryz.underlying4 _) trodAll_mk0)) (fun sp _ => rfl) (fun _ _ => rfl) rfl
    hg (ok_one (by kernel_rfl) rfl (okWide_bool_mk Tryz.underlying4 _))⟩
end Go.Proofs.YtagigldgfaagfabGreatDoor.answerKnown
