import Derived.Test.YtifljcjddphpjaaGreatDoorFaK6a
import Derived.Test.YtifljcjddphpjaaGreatDoorFaK6b
import Derived.Test.YtifljcjddphpjaaGreatDoorFaK6c
import Derived.Test.YtifljcjddphpjaaGreatDoorFaK6d
import Derived.JoinedOf
set_option linter.all false
set_option maxHeartbeats 8000000
set_option maxRecDepth 100000
namespace Go.Proofs.YtifljcjddphpjaaGreatDoor
open Go Go.Proofs
theorem closed6 : joinedFacts Tryz.prog 6 Tryz.f6 Rows.faultProofsSpec Rows.faultProofsRow = true := by
  unfold joinedFacts
  rw [← inPlace6, ← unfollowed6, ← recurses6, ← named6]
  kernel_rfl
end Go.Proofs.YtifljcjddphpjaaGreatDoor
