/- The law DistSums holds: called with whatever numbers, in whatever memory and on every schedule it returns true, and what was there stays. No condition of its own. -/
import Derived.Test.YtcbnaidaoemidaaDistS
import Derived.Test.YtcbnaidaoemidaaRows
import Derived.WalkKit
import Derived.ProofKit
import Derived.OpenShut
set_option maxHeartbeats 4000000
set_option linter.unusedVariables false
namespace Go.Proofs.Ytcbnaidaoemidaa.distSums
open Go.ChangeShapes Go.WideShapes Go.ChangeAt Go.RowKit
theorem own : ownKnob Try.prog.godebug = none := by kernel_rfl
theorem laidOut : laidOutB Try.prog = true := by kernel_rfl
set_option maxRecDepth 100000
def witArgs : Array Value := #[.int .i64 0, .int .i64 0, .int .i64 0]
theorem wit1 (os : Os) : (World.plainHolding Try.checked.prog os ⟨#[], witArgs, []⟩).variablesB Try.checked.prog = true := by kernel_rfl
theorem wit2 (os : Os) : ((World.plainHolding Try.checked.prog os ⟨#[], witArgs, []⟩).heap.toList.drop Try.checked.prog.globals.size).take ((begin Try.checked.prog (fun _ _ => 0) default).world.heap.size - Try.checked.prog.globals.size) =
      (begin Try.checked.prog (fun _ _ => 0) default).world.heap.toList.drop Try.checked.prog.globals.size := by kernel_rfl
theorem wit3 (os : Os) : Input.okWideB Try.checked.prog (World.plainHolding Try.checked.prog os ⟨#[], witArgs, []⟩) 6 ⟨#[], witArgs, []⟩ = true := by kernel_rfl
theorem wit4 (os : Os) (H : Type) (enc : TypeId × Value → H) : Rows.distSumsSpec.preB enc Try.checked.prog Try.f6 Rows.distSumsRow.domain false (World.plainHolding Try.checked.prog os ⟨#[], witArgs, []⟩).memory witArgs 8 = true := by kernel_rfl
theorem wit5 (os : Os) (H : Type) (enc : TypeId × Value → H) : Rows.distSumsSpec.sizedB enc Try.checked.prog Try.f6 false (World.plainHolding Try.checked.prog os ⟨#[], witArgs, []⟩).memory witArgs 8 = true := by kernel_rfl
theorem lifted (os : Os) (started : os.Started) (H : Type) (enc : TypeId × Value → H) :
    ReturnsInHanded {} Try.checked os 6 .any (Rows.distSumsSpec.pre6 enc Try.prog Try.f6 Rows.distSumsRow.domain false) (Rows.distSumsSpec.post enc Try.prog Try.f6 false true false false) := by
  refine returnsInHanded_of_change (C := Try.checked) own started (by kernel_rfl) Try.func6
    (ChangeSpec.witness6 (enc := enc) (C := Try.checked) false ⟨#[], witArgs, []⟩ 8 (wit1 os) (wit2 os) (wit3 os) (wit4 os H enc) (wit5 os H enc)) ?_
  intro W base args ds gs before hval0 hW hcnd _
  have hval : ∀ (j : Nat) t v, Try.f6.params[j]? = some t → args[j]? = some v → Value.okWide Try.prog W .any base t v := hval0
  have hW' := hW
  obtain ⟨p, q, hA0, hV, rfl, hfz, hnd⟩ := hW
  have hA : DataW.TrodAll enc Try.prog W 0 (fun _ => true) true Try.f6.params.toList args.toList ds p := hA0
  rw [Try.params6] at hA hval
  obtain ⟨v0, vs0, d0, ds0, p0, q0, hargs, rfl, rfl, h0, r0⟩ := trodAll_cons hA
  obtain ⟨v1, vs1, d1, ds1, p1, q1, rfl, rfl, rfl, h1, r1⟩ := trodAll_cons r0
  obtain ⟨v2, vs2, d2, ds2, p2, q2, rfl, rfl, rfl, h2, r2⟩ := trodAll_cons r1
  obtain ⟨rfl, rfl, rfl⟩ := trodAll_nil r2
  obtain rfl : args = #[v0, v1, v2] := by cases args; simp_all
  obtain ⟨rfl, rfl⟩ := trodVars_none hV
  obtain ⟨a0, rfl, _, _, w0⟩ := open_int Try.underlying2 (hval 0 2 v0 rfl rfl) h0
  obtain ⟨a1, rfl, _, _, w1⟩ := open_int Try.underlying2 (hval 1 2 v1 rfl rfl) h1
  obtain ⟨a2, rfl, _, _, w2⟩ := open_int Try.underlying2 (hval 2 2 v2 rfl rfl) h2
  clear hA0 hval0
  refine (Go.Ab.calls_pure Go.Ab.Try.abOk (args := [_, _, _]) (Go.Ab.LR.cons (.int _ _) (Go.Ab.LR.cons (.int _ _) (Go.Ab.LR.cons (.int _ _) Go.Ab.LR.nil))) (Go.Ab.l_sums Go.Ab.hp0_ok) W).mono fun e W' ⟨he, hb⟩ => ?_
  subst he
  exact ⟨_, rfl, Go.Ab.post_of_below (bt := 4) laidOut (by kernel_rfl) rfl hW' rfl hb Try.underlying4 (by kernel_rfl)⟩
theorem over : Rows.distSumsRow.holds Try.pinned (OpenSpec.ofChange Rows.distSumsSpec) :=
  OpenClaim.holds_of_wide 6 Try.f6 rfl rfl rfl rfl rfl rfl rfl ⟨rfl, rfl, rfl, rfl, rfl⟩ rfl rfl rfl rfl rfl (by kernel_rfl) Try.func6 (by kernel_rfl)
    (of_decide_eq_true (by kernel_rfl)) (by unfold Func.isWrapper; first | (rw [if_pos (by decide +kernel)]; kernel_rfl) | (rw [if_neg (by decide +kernel)]; exact ⟨rfl, rfl⟩))
    (fun os started H enc _ => lifted os started H enc)
theorem proved : Rows.DistSumsSaid := over
#print axioms proved
end Go.Proofs.Ytcbnaidaoemidaa.distSums
