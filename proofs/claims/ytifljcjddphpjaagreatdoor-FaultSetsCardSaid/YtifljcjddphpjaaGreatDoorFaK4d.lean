import Derived.Test.YtifljcjddphpjaaGreatDoorTie
set_option linter.all false
set_option maxHeartbeats 8000000
namespace Go.Proofs.YtifljcjddphpjaaGreatDoor
open Go Go.Proofs
set_option maxRecDepth 100000
theorem named4 : Rows.faultSetsRow.named = Tryz.prog.varsNamed 4 := by kernel_rfl
end Go.Proofs.YtifljcjddphpjaaGreatDoor
