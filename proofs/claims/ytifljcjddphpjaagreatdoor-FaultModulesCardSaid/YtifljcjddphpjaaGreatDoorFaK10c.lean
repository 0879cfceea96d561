import Derived.Test.YtifljcjddphpjaaGreatDoorTie
set_option linter.all false
namespace Go.Proofs.YtifljcjddphpjaaGreatDoor
open Go Go.Proofs
set_option maxRecDepth 100000
theorem recurses10 : Rows.faultModulesRow.recurses = Tryz.prog.recurses 10 := by kernel_rfl
end Go.Proofs.YtifljcjddphpjaaGreatDoor
