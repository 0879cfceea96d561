import Derived.Test.YtifljcjddphpjaaGreatDoorFaK8a
import Derived.Test.YtifljcjddphpjaaGreatDoorFaK8b
import Derived.Test.YtifljcjddphpjaaGreatDoorFaK8c
import Derived.Test.YtifljcjddphpjaaGreatDoorFaK8d
import Derived.JoinedOf
set_option linter.all false
set_option maxHeartbeats 8000000
set_option maxRecDepth 100000
namespace Go.Proofs.YtifljcjddphpjaaGreatDoor
open Go Go.Proofs
theorem closed8 : joinedFacts Tryz.prog 8 Tryz.f8 Rows.faultPicturesSpec Rows.faultPicturesRow = true := by
  unfold joinedFacts
  rw [← inPlace8, ← unfollowed8, ← recurses8, ← named8]
  kernel_rfl
end Go.Proofs.YtifljcjddphpjaaGreatDoor
