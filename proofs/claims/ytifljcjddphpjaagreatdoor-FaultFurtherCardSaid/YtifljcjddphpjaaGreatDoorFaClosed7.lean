import Derived.Test.YtifljcjddphpjaaGreatDoorFaK7a
import Derived.Test.YtifljcjddphpjaaGreatDoorFaK7b
import Derived.Test.YtifljcjddphpjaaGreatDoorFaK7c
import Derived.Test.YtifljcjddphpjaaGreatDoorFaK7d
import Derived.JoinedOf
set_option linter.all false
set_option maxHeartbeats 8000000
set_option maxRecDepth 100000
namespace Go.Proofs.YtifljcjddphpjaaGreatDoor
open Go Go.Proofs
theorem closed7 : joinedFacts Tryz.prog 7 Tryz.f7 Rows.faultFurtherSpec Rows.faultFurtherRow = true := by
  unfold joinedFacts
  rw [← inPlace7, ← unfollowed7, ← recurses7, ← named7]
  kernel_rfl
end Go.Proofs.YtifljcjddphpjaaGreatDoor
