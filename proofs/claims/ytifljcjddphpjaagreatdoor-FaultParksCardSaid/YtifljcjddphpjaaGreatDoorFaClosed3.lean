import Derived.Test.YtifljcjddphpjaaGreatDoorFaK3a
import Derived.Test.YtifljcjddphpjaaGreatDoorFaK3b
import Derived.Test.YtifljcjddphpjaaGreatDoorFaK3c
import Derived.Test.YtifljcjddphpjaaGreatDoorFaK3d
import Derived.JoinedOf
set_option linter.all false
namespace Go.Proofs.YtifljcjddphpjaaGreatDoor
open Go Go.Proofs
set_option maxRecDepth 100000
theorem closed3 : joinedFacts Tryz.prog 3 Tryz.f3 Rows.faultParksSpec Rows.faultParksRow = true := by
  unfold joinedFacts
  rw [← inPlace3, ← unfollowed3, ← recurses3, ← named3]
  kernel_rfl
end Go.Proofs.YtifljcjddphpjaaGreatDoor
