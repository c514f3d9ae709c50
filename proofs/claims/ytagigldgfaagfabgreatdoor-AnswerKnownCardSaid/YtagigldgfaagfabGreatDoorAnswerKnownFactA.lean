/- The closed law AnswerKnown holds: called in whatever memory and on every schedule it returns true, and what was there stays. No condition of its own. -/
import Derived.Test.YtagigldgfaagfabGreatDoorAnswerKnownWorks
import Derived.Test.YtagigldgfaagfabGreatDoorRows
import Derived.Test.YtagigldgfaagfabGreatDoorCards
import Derived.Test.YtagigldgfaagfabGreatDoorTie
import Derived.LaidLaws
import Derived.LaidHandle
import Derived.Stop.Joined
import Derived.SevenTiedAt
import Derived.RowKit
import Derived.RowKitTokens
import Derived.WalkKit
import Derived.ProofKit
import Derived.OpenShut
set_option maxHeartbeats 4000000
namespace Go.Proofs.YtagigldgfaagfabGreatDoor.answerKnown
open Go.ChangeShapes Go.WideShapes Go.ChangeAt Go.RowKit
theorem factA : joinedFacts Tryz.pinned.checked.prog 3 Tryz.f3 Rows.answerKnownSpec Rows.answerKnownRow = true := by kernel_rfl
end Go.Proofs.YtagigldgfaagfabGreatDoor.answerKnown
