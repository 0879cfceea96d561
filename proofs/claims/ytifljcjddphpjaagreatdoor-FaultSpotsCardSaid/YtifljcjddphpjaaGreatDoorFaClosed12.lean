import Derived.Test.YtifljcjddphpjaaGreatDoorFaK12a
import Derived.Test.YtifljcjddphpjaaGreatDoorFaK12c
import Derived.JoinedOf
set_option linter.all false
set_option maxHeartbeats 8000000
set_option maxRecDepth 100000
namespace Go.Proofs.YtifljcjddphpjaaGreatDoor
open Go Go.Proofs
theorem closed12 : joinedFacts Tryz.prog 12 Tryz.f12 Rows.faultSpotsSpec Rows.faultSpotsRow = true := by
  unfold joinedFacts
  rw [← inPlace12, ← unfollowed12, ← recurses12, ← named12]
  kernel_rfl
end Go.Proofs.YtifljcjddphpjaaGreatDoor
