import Derived.Test.YtifljcjddphpjaaGreatDoorTie
set_option linter.all false
namespace Go.Proofs.YtifljcjddphpjaaGreatDoor
open Go Go.Proofs
set_option maxRecDepth 100000
theorem recurses3 : Rows.faultParksRow.recurses = Tryz.prog.recurses 3 := by kernel_rfl
end Go.Proofs.YtifljcjddphpjaaGreatDoor
