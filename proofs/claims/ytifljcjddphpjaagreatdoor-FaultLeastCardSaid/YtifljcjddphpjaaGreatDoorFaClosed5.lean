import Derived.Test.YtifljcjddphpjaaGreatDoorFaK5a
import Derived.Test.YtifljcjddphpjaaGreatDoorFaK5b
import Derived.Test.YtifljcjddphpjaaGreatDoorFaK5c
import Derived.Test.YtifljcjddphpjaaGreatDoorFaK5d
import Derived.JoinedOf
set_option linter.all false
set_option maxHeartbeats 8000000
set_option maxRecDepth 100000
namespace Go.Proofs.YtifljcjddphpjaaGreatDoor
open Go Go.Proofs
theorem closed5 : joinedFacts Tryz.prog 5 Tryz.f5 Rows.faultLeastSpec Rows.faultLeastRow = true := by
  unfold joinedFacts
  rw [← inPlace5, ← unfollowed5, ← recurses5, ← named5]
  kernel_rfl
end Go.Proofs.YtifljcjddphpjaaGreatDoor
