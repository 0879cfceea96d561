import Derived.Test.YtifljcjddphpjaaGreatDoorFaK10a
import Derived.Test.YtifljcjddphpjaaGreatDoorFaK10b
import Derived.Test.YtifljcjddphpjaaGreatDoorFaK10c
import Derived.Test.YtifljcjddphpjaaGreatDoorFaK10d
import Derived.JoinedOf
set_option linter.all false
namespace Go.Proofs.YtifljcjddphpjaaGreatDoor
open Go Go.Proofs
set_option maxRecDepth 100000
theorem closed10 : joinedFacts Tryz.prog 10 Tryz.f10 Rows.faultModulesSpec Rows.faultModulesRow = true := by
  unfold joinedFacts
  rw [← inPlace10, ← unfollowed10, ← recurses10, ← named10]
  kernel_rfl
end Go.Proofs.YtifljcjddphpjaaGreatDoor
