import Derived.Test.YtifljcjddphpjaaGreatDoorTie
set_option linter.all false
namespace Go.Proofs.YtifljcjddphpjaaGreatDoor
open Go Go.Proofs
set_option maxRecDepth 100000
theorem recurses9 : Rows.faultFramesRow.recurses = Tryz.prog.recurses 9 := by kernel_rfl
end Go.Proofs.YtifljcjddphpjaaGreatDoor
