import Derived.Test.YtifljcjddphpjaaGreatDoorFaK13a
import Derived.Test.YtifljcjddphpjaaGreatDoorFaK13b
import Derived.Test.YtifljcjddphpjaaGreatDoorFaK13c
import Derived.Test.YtifljcjddphpjaaGreatDoorFaK13d
import Derived.JoinedOf
set_option linter.all false
set_option maxHeartbeats 8000000
set_option maxRecDepth 100000
namespace Go.Proofs.YtifljcjddphpjaaGreatDoor
open Go Go.Proofs
theorem closed13 : joinedFacts Tryz.prog 13 Tryz.f13 Rows.faultStringsSpec Rows.faultStringsRow = true := by
  unfold joinedFacts
  rw [← inPlace13, ← unfollowed13, ← recurses13, ← named13]
  kernel_rfl
end Go.Proofs.YtifljcjddphpjaaGreatDoor
