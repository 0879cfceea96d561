import Derived.Test.YtifljcjddphpjaaGreatDoorTie
set_option linter.all false
namespace Go.Proofs.YtifljcjddphpjaaGreatDoor
open Go Go.Proofs
set_option maxRecDepth 100000
theorem inPlace3 : Rows.faultParksRow.inPlace = Tryz.prog.inPlace 3 := by kernel_rfl
end Go.Proofs.YtifljcjddphpjaaGreatDoor
