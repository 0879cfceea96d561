import Derived.Test.YtifljcjddphpjaaGreatDoorTie
set_option linter.all false
set_option maxHeartbeats 8000000
namespace Go.Proofs.YtifljcjddphpjaaGreatDoor
open Go Go.Proofs
set_option maxRecDepth 100000
theorem unfollowed4 : Rows.faultSetsRow.unfollowed = Tryz.prog.unfollowed 4 := by kernel_rfl
end Go.Proofs.YtifljcjddphpjaaGreatDoor
