import Derived.Test.YtifljcjddphpjaaGreatDoorTie
import Derived.Test.YtifljcjddphpjaaGreatDoorCards
import Derived.SevenTiedAt
set_option linter.all false
namespace Go.Proofs.YtifljcjddphpjaaGreatDoor
open Go Go.Proofs
set_option maxRecDepth 100000
theorem goesBy3 : false = Rows.faultParksRow.goesBy Tryz.prog := by kernel_rfl
end Go.Proofs.YtifljcjddphpjaaGreatDoor
