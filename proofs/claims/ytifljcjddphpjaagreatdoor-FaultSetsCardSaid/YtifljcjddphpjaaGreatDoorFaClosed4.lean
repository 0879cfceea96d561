import Derived.Test.YtifljcjddphpjaaGreatDoorFaK4a
import Derived.Test.YtifljcjddphpjaaGreatDoorFaK4b
import Derived.Test.YtifljcjddphpjaaGreatDoorFaK4c
import Derived.Test.YtifljcjddphpjaaGreatDoorFaK4d
import Derived.JoinedOf
set_option linter.all false
set_option maxHeartbeats 8000000
namespace Go.Proofs.YtifljcjddphpjaaGreatDoor
open Go Go.Proofs
set_option maxRecDepth 100000
theorem closed4 : joinedFacts Tryz.prog 4 Tryz.f4 Rows.faultSetsSpec Rows.faultSetsRow = true := by
  unfold joinedFacts
  rw [← inPlace4, ← unfollowed4, ← recurses4, ← named4]
  kernel_rfl
end Go.Proofs.YtifljcjddphpjaaGreatDoor
