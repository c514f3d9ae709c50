/- The closed law DistKnown holds: called in whatever memory and on every schedule it returns true, and what was there stays. No condition of its own. -/
import Derived.Test.YtcbnaidaoemidaaEnv
import Derived.Test.YtcbnaidaoemidaaRows
import Derived.WalkKit
import Derived.ProofKit
import Derived.OpenShut
set_option maxHeartbeats 4000000
namespace Go.Proofs.Ytcbnaidaoemidaa.distKnown
open Go.ChangeShapes Go.WideShapes Go.ChangeAt Go.RowKit
theorem own : ownKnob Try.prog.godebug = none := by kernel_rfl
def isTrue (r : Option (Go.Ab.Out × Option (Value × Bool) × Go.Ab.Hp)) : Bool := match r with
  | some (.ret (.bool true), _, _) => true
  | _ => false
theorem isTrue_ret {r : Option (Go.Ab.Out × Option (Value × Bool) × Go.Ab.Hp)} (h : isTrue r = true) : ∃ rc h', r = some (.ret (.bool true), rc, h') := by
  unfold isTrue at h
  split at h
  · exact ⟨_, _, rfl⟩
  · cases h
set_option maxRecDepth 100000 in
theorem known : isTrue ((Go.Ab.run Go.Ab.Try.abEnv 5000).call 7 [] none Go.Ab.hp0) = true := by kernel_rfl
theorem walk (w : World) : Calls Try.prog 7 #[] w fun e w' => e = .returned (.bool true) ∧ Go.Ab.Kept w w' := by
  obtain ⟨rc, h', hr⟩ := isTrue_ret known
  refine Calls.mono (Go.Ab.calls_run Go.Ab.Try.abOk (args := []) rfl hr w) ?_
  intro e w' ⟨_, v', hv, he, hk⟩
  cases hv
  exact ⟨he, hk⟩
set_option maxRecDepth 100000 in
theorem lifted (os : Os) (started : os.Started) (H : Type) (enc : TypeId × Value → H) :
    ReturnsInHanded {} Try.checked os 7 .any (Rows.distKnownSpec.pre6 enc Try.prog Try.f7 Rows.distKnownRow.domain false) (Rows.distKnownSpec.post enc Try.prog Try.f7 false true false false) := by
  refine returnsInHanded_of_change (C := Try.checked) own started (by kernel_rfl) Try.func7
    (ChangeSpec.witness6 (enc := enc) (C := Try.checked) false ⟨#[], #[], []⟩ 8 (by kernel_rfl) (by kernel_rfl) (by kernel_rfl) (by kernel_rfl)) ?_
  intro W base args ds gs before hval0 hW hcnd _
  have hW' := hW
  obtain ⟨p, q, hA0, hV, rfl, hfz, hnd⟩ := hW
  have hA : DataW.TrodAll enc Try.prog W 0 (fun _ => true) true Try.f7.params.toList args.toList ds p := hA0
  rw [Try.params7] at hA
  obtain ⟨rfl, rfl, rfl⟩ := trodAll_none hA
  obtain ⟨rfl, rfl⟩ := trodVars_none hV
  clear hA0 hval0
  simp only [List.append_nil] at hW'
  refine (walk W).mono fun e W' ⟨he, hg⟩ => ?_
  subst he
  exact ⟨_, rfl, Go.Ab.post_of_kept (pa := []) (pv := []) hW' (fun _ _ _ => (trodAll_cons_mk (shut_bool Try.underlying4 _) trodAll_mk0)) (fun sp _ => rfl) (fun _ _ => rfl) rfl
    hg (ok_one (by kernel_rfl) rfl (okWide_bool_mk Try.underlying4 _))⟩
theorem over : Rows.distKnownRow.holds Try.pinned (OpenSpec.ofChange Rows.distKnownSpec) :=
  OpenClaim.holds_of_wide 7 Try.f7 rfl rfl rfl rfl rfl rfl rfl ⟨rfl, rfl, rfl, rfl, rfl⟩ rfl rfl rfl rfl rfl (by kernel_rfl) Try.func7 (by kernel_rfl)
    (of_decide_eq_true (by kernel_rfl)) (by unfold Func.isWrapper; first | (rw [if_pos (by decide +kernel)]; kernel_rfl) | (rw [if_neg (by decide +kernel)]; exact ⟨rfl, rfl⟩))
    (fun os started H enc _ => lifted os started H enc)
theorem proved : Rows.DistKnownSaid := over
#print axioms proved
end Go.Proofs.Ytcbnaidaoemidaa.distKnown
