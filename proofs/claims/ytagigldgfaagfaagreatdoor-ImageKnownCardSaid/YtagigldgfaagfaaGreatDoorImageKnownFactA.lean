/- The closed law ImageKnown holds: called in whatever memory and on every schedule it returns true, and what was there stays. No condition of its own. -/
import Derived.Test.YtagigldgfaagfaaGreatDoorImageKnownWorks
import Derived.Test.YtagigldgfaagfaaGreatDoorRows
import Derived.Test.YtagigldgfaagfaaGreatDoorCards
import Derived.Test.YtagigldgfaagfaaGreatDoorTie
import Derived.LaidLaws
import Derived.LaidHandle
import Derived.Stop.Joined
import Derived.SevenTiedAt
import Derived.RowKit
import Derived.RowKitTokens
import Derived.WalkKit
import Derived.ProofKit
import Derived.OpenShut
set_option maxHeartbeats 4000000
namespace Go.Proofs.YtagigldgfaagfaaGreatDoor.imageKnown
open Go.ChangeShapes Go.WideShapes Go.ChangeAt Go.RowKit
theorem factA : joinedFacts Tryz.pinned.checked.prog 3 Tryz.f3 Rows.imageKnownSpec Rows.imageKnownRow = true := by kernel_rfl
end Go.Proofs.YtagigldgfaagfaaGreatDoor.imageKnown
