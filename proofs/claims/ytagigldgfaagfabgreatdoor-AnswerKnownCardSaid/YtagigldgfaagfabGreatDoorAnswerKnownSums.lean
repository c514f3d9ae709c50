/- What sums are, of the texts that this law meets. -/
import Derived.Test.YtagigldgfaagfabGreatDoorEnv
import Derived.KernelRfl
set_option maxHeartbeats 4000000
namespace Go.Proofs.YtagigldgfaagfabGreatDoor.answerKnown
open Go.Ab
set_option maxRecDepth 100000
def sums : List (Nat × List Value × Value) := []
theorem sums_known : ∀ e ∈ sums, Known Tryz.abEnv Tryz.prog e := by
  intro e he
  cases he
noncomputable def env1 : Env := withOrc Tryz.abEnv (orcOf sums)
theorem ok1 : EOk env1 Tryz.prog := eok_table Tryz.abOk sums_known
end Go.Proofs.YtagigldgfaagfabGreatDoor.answerKnown
