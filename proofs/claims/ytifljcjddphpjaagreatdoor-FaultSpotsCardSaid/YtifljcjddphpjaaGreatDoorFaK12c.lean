import Derived.Test.YtifljcjddphpjaaGreatDoorTie
set_option linter.all false
set_option maxHeartbeats 8000000
set_option maxRecDepth 100000
namespace Go.Proofs.YtifljcjddphpjaaGreatDoor
open Go Go.Proofs
theorem recurses12 : Rows.faultSpotsRow.recurses = Tryz.prog.recurses 12 := by kernel_rfl
theorem named12 : Rows.faultSpotsRow.named = Tryz.prog.varsNamed 12 := by kernel_rfl
end Go.Proofs.YtifljcjddphpjaaGreatDoor
