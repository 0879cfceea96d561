import Derived.Test.YtifljcjddphpjaaGreatDoorFaK1
import Derived.Test.YtifljcjddphpjaaGreatDoorFaK2
import Derived.Test.YtifljcjddphpjaaGreatDoorFaK3
import Derived.Test.YtifljcjddphpjaaGreatDoorFaK4
import Derived.JoinedOf
set_option linter.all false
namespace Go.Proofs.YtifljcjddphpjaaGreatDoor
open Go Go.Proofs
set_option maxRecDepth 100000
theorem closed9 : joinedFacts Tryz.prog 9 Tryz.f9 Rows.faultFramesSpec Rows.faultFramesRow = true := by
  unfold joinedFacts
  rw [← inPlace9, ← unfollowed9, ← recurses9, ← named9]
  kernel_rfl
end Go.Proofs.YtifljcjddphpjaaGreatDoor
