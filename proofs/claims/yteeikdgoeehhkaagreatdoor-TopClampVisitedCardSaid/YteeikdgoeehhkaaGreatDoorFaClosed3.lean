import Derived.Test.YteeikdgoeehhkaaGreatDoorFaK3a
import Derived.Test.YteeikdgoeehhkaaGreatDoorFaK3b
import Derived.Test.YteeikdgoeehhkaaGreatDoorFaK3c
import Derived.Test.YteeikdgoeehhkaaGreatDoorFaK3d
import Derived.JoinedOf
set_option linter.all false
set_option maxHeartbeats 8000000
set_option maxRecDepth 100000
namespace Go.Proofs.YteeikdgoeehhkaaGreatDoor
open Go Go.Proofs
theorem closed3 : joinedFacts Tryz.prog 3 Tryz.f3 Rows.topClampVisitedSpec Rows.topClampVisitedRow = true := by
  unfold joinedFacts
  rw [← inPlace3, ← unfollowed3, ← recurses3, ← named3]
  kernel_rfl
end Go.Proofs.YteeikdgoeehhkaaGreatDoor
