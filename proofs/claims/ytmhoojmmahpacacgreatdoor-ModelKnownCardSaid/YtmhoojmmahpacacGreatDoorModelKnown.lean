/- The closed law ModelKnown holds: called in whatever memory and on every schedule it returns true, and what was there stays. No condition of its own. -/
import Derived.Test.YtmhoojmmahpacacGreatDoorModelKnownSums
import Derived.Test.YtmhoojmmahpacacGreatDoorModelKnownFacts
import Derived.Test.YtmhoojmmahpacacGreatDoorRows
import Derived.Test.YtmhoojmmahpacacGreatDoorCards
import Derived.Test.YtmhoojmmahpacacGreatDoorTie
import Derived.LaidLaws
import Derived.LaidHandle
import Derived.Stop.Joined
import Derived.SevenTiedAt
import Derived.RowKit
import Derived.RowKitTokens
import Derived.WalkKit
import Derived.ProofKit
import Derived.OpenShut
set_option maxHeartbeats 4000000
namespace Go.Proofs.YtmhoojmmahpacacGreatDoor.modelKnown
open Go.ChangeShapes Go.WideShapes Go.ChangeAt Go.RowKit
theorem own : ownKnob Tryz.prog.godebug = none := by kernel_rfl
def isTrue (r : Option (Go.Ab.Out × Option (Value × Bool) × Go.Ab.Hp)) : Bool := match r with
  | some (.ret (.bool true), _, _) => true
  | _ => false
theorem isTrue_ret {r : Option (Go.Ab.Out × Option (Value × Bool) × Go.Ab.Hp)} (h : isTrue r = true) : ∃ rc h', r = some (.ret (.bool true), rc, h') := by
  unfold isTrue at h
  split at h
  · exact ⟨_, _, rfl⟩
  · cases h
set_option maxRecDepth 100000 in
theorem known : isTrue ((Go.Ab.runK env3 5000).call 3 [] none (Go.Ab.hp1 1155346268217)) = true := by kernel_rfl
theorem walk (w : World) (hg : w.cell? ⟨0, 0, none⟩ = some (Go.Ab.hand 1155346268217)) : Calls Tryz.prog 3 #[] w fun e w' => e = .returned (.bool true) ∧ Go.Ab.Kept w w' := by
  obtain ⟨rc, h', hr⟩ := isTrue_ret known
  rw [Go.Ab.runK_call] at hr
  refine Calls.mono (Go.Ab.calls_hand ok3 hr w hg) ?_
  intro e w' ⟨_, v', hv, he, hk⟩
  cases hv
  exact ⟨he, hk⟩
theorem et : Tryz.prog.globalNamed "errors.errorType" = some 0 := by kernel_rfl
theorem rt : (Tryz.prog.cutTypes.find? (·.1 == "internal/reflectlite.rtype")).map (·.2) = some 269 := by kernel_rfl
theorem oneRow : ((List.range 471).filter fun t => Tryz.prog.rowNamed t [101, 114, 114, 111, 114]) = [57] := by kernel_rfl
theorem size : Tryz.prog.types.size = 471 := by kernel_rfl
/-- What the condition gives. -/
theorem handle_of_laid {W : World} (h : laidMetH Tryz.prog [("errors.errorType", Rows.laid_errors_errorType)] W) : W.cell? ⟨0, 0, none⟩ = some (Go.Ab.hand 1155346268217) := by
  have h' : laidMet Tryz.prog [] W ∧ handlesMet Tryz.prog [("errors.errorType", Rows.laid_errors_errorType)] W := h
  obtain ⟨name, u, ty, e1, e2, e3, e4, e5⟩ := h'.2 _ (List.mem_singleton.2 rfl)
  have en : name = [101, 114, 114, 111, 114] := (Option.some.inj e1).symm
  subst en
  obtain rfl := Option.some.inj (rt.symm.trans e2)
  have hm : ty ∈ (List.range 471).filter fun t => Tryz.prog.rowNamed t [101, 114, 114, 111, 114] := List.mem_filter.2 ⟨List.mem_range.2 (by rw [← size]; exact e3), e4⟩
  rw [oneRow] at hm
  obtain rfl := List.mem_singleton.1 hm
  have hh : typeHandle Tryz.prog 57 = .pointer (some ⟨1, 57, none⟩) := by kernel_rfl
  rw [hh] at e5
  exact (World.var?_cell et e5 0).trans rfl
/-- A world that meets the row's condition: the settled one, the variable's cell laid. -/
noncomputable def laidWorld (os : Os) : World :=
  let w0 := World.holding Tryz.prog os ⟨#[], #[], []⟩
  { w0 with heap := w0.heap.modify 0 fun
      | .cells _ t frozen => .cells #[.iface 269 (.agg #[.pointer (some ⟨1, 57, none⟩)])] t frozen
      | o => o }
theorem laidWorld_met (os : Os) (args : Array Value) : laidMetH Tryz.prog [("errors.errorType", Rows.laid_errors_errorType)] ((laidWorld os).forCall (fun _ _ => 0) ⟨#[], args, []⟩).memory :=
  laidMetH_of_parts (laidMet_nil _ _) (by kernel_rfl)
set_option maxRecDepth 100000 in
theorem lifted (os : Os) (started : os.Started) (H : Type) (enc : TypeId × Value → H) :
    ReturnsInHanded {} Tryz.checked os 3 .any (fun w args => (Rows.modelKnownSpec.pre enc Tryz.prog Tryz.f3 [] false w args ∧ laidMetH Tryz.prog [("errors.errorType", Rows.laid_errors_errorType)] w) ∧ sizedMet enc Tryz.prog Tryz.f3 (OpenSpec.ofChange Rows.modelKnownSpec) false w args)
      (Rows.modelKnownSpec.post enc Tryz.prog Tryz.f3 false true false false) := by
  refine returnsInHanded_of_change_and (C := Tryz.checked) (X := fun w _ => laidMetH Tryz.prog [("errors.errorType", Rows.laid_errors_errorType)] w) (fun _ _ _ hh h => h.of_heap hh) own started (by kernel_rfl) Tryz.func3
    (ChangeSpec.witness_at (enc := enc) (C := Tryz.checked) (os := os) (X := fun w _ => laidMetH Tryz.prog [("errors.errorType", Rows.laid_errors_errorType)] w) false (laidWorld os) #[] 8 rfl (by kernel_rfl) (by kernel_rfl) (by kernel_rfl) (by kernel_rfl) (by kernel_rfl) (laidWorld_met os _)) ?_
  intro W base args ds gs before hval0 hW _ _ hL _
  have hW' := hW
  obtain ⟨p, q, hA0, hV, rfl, hfz, hnd⟩ := hW
  have hA : DataW.TrodAll enc Tryz.prog W 0 (fun _ => true) true Tryz.f3.params.toList args.toList ds p := hA0
  rw [Tryz.params3] at hA
  obtain ⟨rfl, rfl, rfl⟩ := trodAll_none hA
  obtain ⟨rfl, rfl⟩ := trodVars_none hV
  clear hA0 hval0
  simp only [List.append_nil] at hW'
  refine (walk W (handle_of_laid hL)).mono fun e W' ⟨he, hg⟩ => ?_
  subst he
  exact ⟨_, rfl, Go.Ab.post_of_kept (pa := []) (pv := []) hW' (fun _ _ _ => (trodAll_cons_mk (shut_bool Tryz.underlying4 _) trodAll_mk0)) (fun sp _ => rfl) (fun _ _ => rfl) rfl
    hg (ok_one (by kernel_rfl) rfl (okWide_bool_mk Tryz.underlying4 _))⟩
theorem over : Rows.modelKnownRow.holds Tryz.pinned (OpenSpec.ofChange Rows.modelKnownSpec) :=
  OpenClaim.holds_of_wide 3 Tryz.f3 rfl rfl rfl rfl rfl rfl rfl ⟨rfl, rfl, rfl, rfl, rfl⟩ rfl rfl rfl rfl rfl (by kernel_rfl) Tryz.func3 closedAll
    (of_decide_eq_true (by kernel_rfl)) (by unfold Func.isWrapper; first | (rw [if_pos (by decide +kernel)]; kernel_rfl) | (rw [if_neg (by decide +kernel)]; exact ⟨rfl, rfl⟩))
    (fun os started H enc _ => lifted os started H enc)
theorem proved : Rows.ModelKnownCardSaid :=
  Claim7.holds_tied_plain_at .later [] [.handle] true (true, "59683082333fb4c6fbc6969b525e9a35ec420cd5925c3f300d6256ffb59cae2a") true
    over (fun _ h => by cases h) (by kernel_rfl) (fun _ h => by cases h) modelKnown_row_tie rfl ⟨rfl, rfl⟩ (by kernel_rfl) rfl
    (fun f fn hf hfn => by
      obtain rfl : f = 3 := Option.some.inj ((show Tryz.prog.funcNamed Tryz.f3.name = some 3 by kernel_rfl).symm.trans hf) |>.symm
      obtain rfl : fn = Tryz.f3 := (Option.some.inj (Tryz.func3.symm.trans hfn)).symm
      exact ⟨by kernel_rfl, fun j t ht => by
        rw [Tryz.params3] at ht
        simp at ht⟩)
    (by kernel_rfl)
#print axioms proved
end Go.Proofs.YtmhoojmmahpacacGreatDoor.modelKnown
