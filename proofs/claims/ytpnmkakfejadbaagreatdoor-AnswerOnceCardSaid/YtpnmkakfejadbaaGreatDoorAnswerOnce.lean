/- The law AnswerOnce holds: called with whatever arguments, in whatever memory and on every schedule it returns true, and what was there stays. No condition of its own. -/
import Derived.Test.YtpnmkakfejadbaaGreatDoorKdtD
import Derived.Test.YtpnmkakfejadbaaGreatDoorRows
import Derived.Test.YtpnmkakfejadbaaGreatDoorCards
import Derived.Test.YtpnmkakfejadbaaGreatDoorTie
import Derived.LaidLaws
import Derived.LaidHandle
import Derived.Stop.Joined
import Derived.SevenTiedAt
import Derived.RowKit
import Derived.RowKitTokens
import Derived.WalkKit
import Derived.ProofKit
import Derived.OpenShut
set_option maxHeartbeats 4000000
set_option linter.unusedVariables false
namespace Go.Proofs.YtpnmkakfejadbaaGreatDoor.answerOnce
open Go.ChangeShapes Go.WideShapes Go.ChangeAt Go.RowKit
theorem own : ownKnob Tryz.prog.godebug = none := by kernel_rfl
theorem laidOut : laidOutB Tryz.prog = true := by kernel_rfl
theorem u8 : ∀ z, (Lit.int .u8 z).wf = true → 0 ≤ z ∧ z ≤ 255 := fun z h => by unfold Lit.wf at h;simp only [Bool.and_eq_true, decide_eq_true_eq] at h;exact h
theorem i8 : ∀ z, (Lit.int .i8 z).wf = true → -128 ≤ z ∧ z ≤ 127 := fun z h => by unfold Lit.wf at h;simp only [Bool.and_eq_true, decide_eq_true_eq] at h;exact h
def witArgs : Array Value := #[.agg #[.slice .none 0 0, .slice .none 0 0, .slice .none 0 0, .int .u8 0, .slice .none 0 0, .int .u8 0, .int .u8 0, .int .i8 0]]
/-- A world that meets the row's condition: the settled one, the variable's cell laid. -/
noncomputable def laidWorld (os : Os) : World :=
  let w0 := World.holding Tryz.prog os ⟨#[], #[], []⟩
  { w0 with heap := w0.heap.modify 0 fun
      | .cells _ t frozen => .cells #[.iface 338 (.agg #[.pointer (some ⟨1, 75, none⟩)])] t frozen| o => o }
theorem laidWorld_met (os : Os) (args : Array Value) : laidMetH Tryz.prog [("errors.errorType", Rows.laid_errors_errorType)] ((laidWorld os).forCall (fun _ _ => 0) ⟨#[], args, []⟩).memory :=
  laidMetH_of_parts (laidMet_nil _ _) (by kernel_rfl)
set_option maxRecDepth 100000 in
theorem lifted (os : Os) (started : os.Started) (H : Type) (enc : TypeId × Value → H) :
    ReturnsInHanded {} Tryz.checked os 6 .any (fun w args => (Rows.answerOnceSpec.pre enc Tryz.prog Tryz.f6 [] false w args ∧ laidMetH Tryz.prog [("errors.errorType", Rows.laid_errors_errorType)] w) ∧ sizedMet enc Tryz.prog Tryz.f6 (OpenSpec.ofChange Rows.answerOnceSpec) false w args)
      (Rows.answerOnceSpec.post enc Tryz.prog Tryz.f6 false true false false) := by
  refine returnsInHanded_of_change_and (C := Tryz.checked) (X := fun w _ => laidMetH Tryz.prog [("errors.errorType", Rows.laid_errors_errorType)] w) (fun _ _ _ hh h => h.of_heap hh) own started (by kernel_rfl) Tryz.func6
    (ChangeSpec.witness_at (enc := enc) (C := Tryz.checked) (os := os) (X := fun w _ => laidMetH Tryz.prog [("errors.errorType", Rows.laid_errors_errorType)] w) false (laidWorld os) witArgs 8 rfl (by kernel_rfl) (by kernel_rfl) (by kernel_rfl) (by kernel_rfl) (by kernel_rfl) (laidWorld_met os _)) ?_
  intro W base args ds gs before hval0 hW _ _ _ _;have hval : ∀ (j : Nat) t v, Tryz.f6.params[j]? = some t → args[j]? = some v → Value.okWide Tryz.prog W .any base t v := hval0;have hW' := hW;obtain ⟨p, q, hA0, hV, rfl, hfz, hnd⟩ := hW;have hA : DataW.TrodAll enc Tryz.prog W 0 (fun _ => true) true Tryz.f6.params.toList args.toList ds p := hA0;rw [Tryz.params6] at hA hval;obtain ⟨v0, vs0, d0, ds0, p0, q0, hargs, rfl, rfl, h0, r0⟩ := trodAll_cons hA;obtain ⟨rfl, rfl, rfl⟩ := trodAll_nil r0;obtain rfl : args = #[v0] := by cases args; simp_all
  obtain ⟨rfl, rfl⟩ := trodVars_none hV;obtain ⟨c0, c1, c2, c4, x3, x5, x6, x7, zB, zO, zM, zN, rfl, hB, hO, hM, hN, wO, wM, wN, wu, wu5, wu6⟩ := Go.Ab.open_d32 Tryz.underlying26 rfl rfl rfl rfl rfl rfl rfl rfl rfl rfl rfl rfl rfl rfl rfl rfl Tryz.underlying22 Tryz.underlying5 Tryz.underlying23 Tryz.underlying24 Tryz.underlying5 Tryz.underlying2 (by kernel_rfl) (by kernel_rfl) (by kernel_rfl) (by kernel_rfl) (by kernel_rfl) (by kernel_rfl) (by kernel_rfl) (by kernel_rfl) (hval 0 26 v0 rfl rfl) h0;obtain ⟨n3, rfl⟩ := Int.eq_ofNat_of_zero_le (u8 x3 wu).1;obtain ⟨n5, rfl⟩ := Int.eq_ofNat_of_zero_le (u8 x5 wu5).1;obtain ⟨n6, rfl⟩ := Int.eq_ofNat_of_zero_le (u8 x6 wu6).1;clear hA0 hval0;refine (Go.Ab.calls_W Go.Ab.Tryz.abOk (args := #[.agg #[c0, c1, c2, .int .u8 (n3 : Nat), c4, .int .u8 (n5 : Nat), .int .u8 (n6 : Nat), .int .i8 x7]]) (Go.Ab.xN (Go.Ab.hpW_ok W) hB hO (fun z hz => u8 z (wO z hz)) hM (fun z hz => u8 z (wM z hz)) hN (fun z hz => Go.Ab.wf64 (wN z hz)) (by have := (u8 _ wu).2; omega) (by have := (u8 _ wu5).2; omega) (by have := (u8 _ wu6).2; omega))).mono fun e W' ⟨he, hb⟩ => ?_;subst he;exact ⟨_, rfl, Go.Ab.BO (bt := 4) laidOut (by kernel_rfl) rfl hW' rfl hb Tryz.underlying4 (by kernel_rfl)⟩
theorem over : Rows.answerOnceRow.holds Tryz.pinned (OpenSpec.ofChange Rows.answerOnceSpec) :=
  OpenClaim.holds_of_wide 6 Tryz.f6 rfl rfl rfl rfl rfl rfl rfl ⟨rfl, rfl, rfl, rfl, rfl⟩ rfl rfl rfl rfl rfl (by kernel_rfl) Tryz.func6 (by kernel_rfl)
    (of_decide_eq_true (by kernel_rfl)) (by unfold Func.isWrapper; first | (rw [if_pos (by decide +kernel)]; kernel_rfl) | (rw [if_neg (by decide +kernel)]; exact ⟨rfl, rfl⟩))
    (fun os started H enc _ => lifted os started H enc)
theorem proved : Rows.AnswerOnceCardSaid :=
  Claim7.holds_tied_plain_at .later [] [.handle] true (true, "8597a68f66e132f7da09878bb1401272f43326b6bb44761938d8a861ecfb7262") true
    over (fun _ h => by cases h) (by kernel_rfl) (fun _ h => by cases h) answerOnce_row_tie rfl ⟨rfl, rfl⟩ (by kernel_rfl) rfl
    (fun f fn hf hfn => by
      obtain rfl : f = 6 := Option.some.inj ((show Tryz.prog.funcNamed Tryz.f6.name = some 6 by kernel_rfl).symm.trans hf) |>.symm;obtain rfl : fn = Tryz.f6 := (Option.some.inj (Tryz.func6.symm.trans hfn)).symm;exact ⟨by kernel_rfl, fun j t ht => by
        rw [Tryz.params6] at ht;rcases j with _ | j
        · obtain rfl : t = 26 := (by simpa using ht.symm);exact (show Tryz.prog.wantsStandIn 26 = false by kernel_rfl)
        · simp at ht⟩)
    (by kernel_rfl)
#print axioms proved
end Go.Proofs.YtpnmkakfejadbaaGreatDoor.answerOnce
