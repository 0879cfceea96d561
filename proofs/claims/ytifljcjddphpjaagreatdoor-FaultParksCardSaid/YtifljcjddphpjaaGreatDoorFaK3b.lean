import Derived.Test.YtifljcjddphpjaaGreatDoorTie
set_option linter.all false
namespace Go.Proofs.YtifljcjddphpjaaGreatDoor
open Go Go.Proofs
set_option maxRecDepth 100000
theorem unfollowed3 : Rows.faultParksRow.unfollowed = Tryz.prog.unfollowed 3 := by kernel_rfl
end Go.Proofs.YtifljcjddphpjaaGreatDoor
