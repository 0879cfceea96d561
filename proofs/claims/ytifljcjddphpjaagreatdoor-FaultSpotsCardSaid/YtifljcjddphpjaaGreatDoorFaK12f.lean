import Derived.Test.YtifljcjddphpjaaGreatDoorTie
import Derived.Test.YtifljcjddphpjaaGreatDoorCards
import Derived.SevenTiedAt
set_option linter.all false
set_option maxHeartbeats 8000000
set_option maxRecDepth 100000
namespace Go.Proofs.YtifljcjddphpjaaGreatDoor
open Go Go.Proofs
theorem mainIs12 : Tryz.prog.mainIs = some (true, "87ed971a46d143ac664404183cb639de330058d80f7d2e21f7cd3d2d1ce3f35c".toList) := by kernel_rfl
theorem looks12 : false = Tryz.prog.looks [] := by kernel_rfl
end Go.Proofs.YtifljcjddphpjaaGreatDoor
