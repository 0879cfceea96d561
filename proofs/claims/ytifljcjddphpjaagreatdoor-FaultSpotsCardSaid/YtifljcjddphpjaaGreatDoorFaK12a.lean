import Derived.Test.YtifljcjddphpjaaGreatDoorTie
set_option linter.all false
set_option maxHeartbeats 8000000
set_option maxRecDepth 100000
namespace Go.Proofs.YtifljcjddphpjaaGreatDoor
open Go Go.Proofs
theorem inPlace12 : Rows.faultSpotsRow.inPlace = Tryz.prog.inPlace 12 := by kernel_rfl
theorem unfollowed12 : Rows.faultSpotsRow.unfollowed = Tryz.prog.unfollowed 12 := by kernel_rfl
end Go.Proofs.YtifljcjddphpjaaGreatDoor
