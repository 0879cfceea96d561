import Derived.Test.YtifljcjddphpjaaGreatDoorFaK11a
import Derived.Test.YtifljcjddphpjaaGreatDoorFaK11b
import Derived.Test.YtifljcjddphpjaaGreatDoorFaK11c
import Derived.Test.YtifljcjddphpjaaGreatDoorFaK11d
import Derived.JoinedOf
set_option linter.all false
set_option maxHeartbeats 8000000
set_option maxRecDepth 100000
namespace Go.Proofs.YtifljcjddphpjaaGreatDoor
open Go Go.Proofs
theorem closed11 : joinedFacts Tryz.prog 11 Tryz.f11 Rows.faultMadeSpec Rows.faultMadeRow = true := by
  unfold joinedFacts
  rw [← inPlace11, ← unfollowed11, ← recurses11, ← named11]
  kernel_rfl
end Go.Proofs.YtifljcjddphpjaaGreatDoor
