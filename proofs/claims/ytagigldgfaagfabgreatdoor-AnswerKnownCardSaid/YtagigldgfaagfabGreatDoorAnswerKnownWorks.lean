/- The examples hold, by the kernel. -/
import Derived.Test.YtagigldgfaagfabGreatDoorAnswerKnownSums
import Derived.KernelRfl
set_option maxHeartbeats 4000000
namespace Go.Proofs.YtagigldgfaagfabGreatDoor.answerKnown
open Go.Ab
set_option maxRecDepth 100000
def worksIs : Nat × List Value × Value := (7, [], .bool true)
theorem works_known : Known env1 Tryz.prog worksIs := known_of (n := 5000) ok1 (by kernel_rfl) (by kernel_rfl)
noncomputable def env2 : Env := withOrc Tryz.abEnv (orcOf (worksIs :: sums))
theorem ok2 : EOk env2 Tryz.prog := eok_table Tryz.abOk (by
  intro e he
  rcases List.mem_cons.1 he with rfl | he
  · exact works_known.without
  · exact sums_known e he)
end Go.Proofs.YtagigldgfaagfabGreatDoor.answerKnown
