import Derived.Test.YtifljcjddphpjaaGreatDoorTie
set_option linter.all false
set_option maxHeartbeats 8000000
namespace Go.Proofs.YtifljcjddphpjaaGreatDoor
open Go Go.Proofs
set_option maxRecDepth 100000
theorem inPlace4 : Rows.faultSetsRow.inPlace = Tryz.prog.inPlace 4 := by kernel_rfl
end Go.Proofs.YtifljcjddphpjaaGreatDoor
