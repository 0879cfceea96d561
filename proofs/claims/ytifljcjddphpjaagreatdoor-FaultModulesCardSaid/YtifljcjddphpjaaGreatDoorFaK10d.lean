import Derived.Test.YtifljcjddphpjaaGreatDoorTie
set_option linter.all false
namespace Go.Proofs.YtifljcjddphpjaaGreatDoor
open Go Go.Proofs
set_option maxRecDepth 100000
theorem named10 : Rows.faultModulesRow.named = Tryz.prog.varsNamed 10 := by kernel_rfl
end Go.Proofs.YtifljcjddphpjaaGreatDoor
