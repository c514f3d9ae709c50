/- The closed law AnswerKnown holds: called in whatever memory and on every schedule it returns true, and what was there stays. No condition of its own. -/
import Derived.Test.YtagigldgfaagfabGreatDoorAnswerKnownWalk
import Derived.Test.YtagigldgfaagfabGreatDoorAnswerKnownFactA
import Derived.Test.YtagigldgfaagfabGreatDoorAnswerKnownFactB
set_option maxHeartbeats 4000000
namespace Go.Proofs.YtagigldgfaagfabGreatDoor.answerKnown
open Go.ChangeShapes Go.WideShapes Go.ChangeAt Go.RowKit
theorem over : Rows.answerKnownRow.holds Tryz.pinned (OpenSpec.ofChange Rows.answerKnownSpec) :=
  OpenClaim.holds_of_wide 3 Tryz.f3 rfl rfl rfl rfl rfl rfl rfl ⟨rfl, rfl, rfl, rfl, rfl⟩ rfl rfl rfl rfl rfl (by kernel_rfl) Tryz.func3 factA
    (of_decide_eq_true (by kernel_rfl)) (by unfold Func.isWrapper; first | (rw [if_pos (by decide +kernel)]; kernel_rfl) | (rw [if_neg (by decide +kernel)]; exact ⟨rfl, rfl⟩))
    (fun os started H enc _ => lifted os started H enc)
theorem proved : Rows.AnswerKnownCardSaid :=
  Claim7.holds_tied_plain_at .later [] [.handle] true (true, "ace8617b96678b8a3fc37176bce06d443bb0923ae8c4ce413d86139c570ae576") true
    over (fun _ h => by cases h) (by kernel_rfl) (fun _ h => by cases h) answerKnown_row_tie rfl ⟨rfl, rfl⟩ (by kernel_rfl) rfl
    (fun f fn hf hfn => by
      obtain rfl : f = 3 := Option.some.inj ((show Tryz.prog.funcNamed Tryz.f3.name = some 3 by kernel_rfl).symm.trans hf) |>.symm
      obtain rfl : fn = Tryz.f3 := (Option.some.inj (Tryz.func3.symm.trans hfn)).symm
      exact ⟨by kernel_rfl, fun j t ht => by
        rw [Tryz.params3] at ht
        simp at ht⟩)
    factB
#print axioms proved
end Go.Proofs.YtagigldgfaagfabGreatDoor.answerKnown
