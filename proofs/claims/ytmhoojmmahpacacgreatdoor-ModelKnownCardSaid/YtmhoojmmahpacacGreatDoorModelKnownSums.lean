/- What sums are, and that the examples hold, by the kernel. -/
import Derived.Test.YtmhoojmmahpacacGreatDoorEnv
import Derived.KernelRfl
set_option maxHeartbeats 4000000
namespace Go.Proofs.YtmhoojmmahpacacGreatDoor.modelKnown
open Go.Ab
set_option maxRecDepth 100000
def sum0 : Nat × List Value × Value := (60, [.string (byteStr [1, 0, 0, 0, 0, 0, 0, 0, 3, 0, 0, 0, 0, 0, 0, 0, 4, 0, 0, 0, 0, 0, 0, 0])], .int .u32 2405831951)
theorem sum0_known : Known Tryz.abEnv Tryz.prog sum0 := known_of (n := 5000) Tryz.abOk (by kernel_rfl) (by kernel_rfl)
def sum1 : Nat × List Value × Value := (60, [.string (byteStr [77, 73, 76, 69, 49, 1, 1, 1, 24, 0, 0, 0, 0, 0, 0, 0, 15, 21, 102, 143])], .int .u32 2961392615)
theorem sum1_known : Known Tryz.abEnv Tryz.prog sum1 := known_of (n := 5000) Tryz.abOk (by kernel_rfl) (by kernel_rfl)
def sums : List (Nat × List Value × Value) := [sum0, sum1]
theorem sums_known : ∀ e ∈ sums, Known Tryz.abEnv Tryz.prog e := by
  intro e he
  simp only [sums, List.mem_cons, List.not_mem_nil, or_false] at he
  rcases he with rfl | rfl
  · exact sum0_known
  · exact sum1_known
noncomputable def env1 : Env := withOrc Tryz.abEnv (orcOf sums)
theorem ok1 : EOk env1 Tryz.prog := eok_table Tryz.abOk sums_known
noncomputable def env2 : Env := withExt env1 (extOf 1155346268217 45 78 108 [104, 80] fun _ _ => none)
theorem ok2 : EOk env2 Tryz.prog := eok_ext ok1 ⟨_, rfl, rfl⟩ asOk (fun _ _ _ h => by cases h)
def worksIs : Nat × List Value × Value := (11, [], .bool true)
theorem works_known : (∃ fn, env2.fn 11 = some fn ∧ fn.body.isSome = true) ∧ OrcG Tryz.prog 1155346268217 11 [] (.bool true) := orcg_of (n := 5000) ok2 (by kernel_rfl) (by kernel_rfl)
noncomputable def env3 : Env := withExt env1 (extOf 1155346268217 45 78 108 [104, 80] (orcOf [worksIs]))
theorem ok3 : EOk env3 Tryz.prog := eok_ext (o := orcOf [worksIs]) ok1 ⟨_, rfl, rfl⟩ asOk (fun g args v h => orcOf_all (l := [worksIs]) (P := fun g args v => (∃ f, env1.fn g = some f ∧ f.body.isSome = true) ∧ OrcG Tryz.prog 1155346268217 g args v) (fun e he => by
  obtain rfl := List.mem_singleton.1 he
  exact works_known) h)
end Go.Proofs.YtmhoojmmahpacacGreatDoor.modelKnown
