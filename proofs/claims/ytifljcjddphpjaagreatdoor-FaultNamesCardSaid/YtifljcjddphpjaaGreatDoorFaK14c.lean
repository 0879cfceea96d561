import Derived.Test.YtifljcjddphpjaaGreatDoorTie
set_option linter.all false
set_option maxHeartbeats 8000000
set_option maxRecDepth 100000
namespace Go.Proofs.YtifljcjddphpjaaGreatDoor
open Go Go.Proofs
theorem yv6:Rows.faultNamesRow.recurses=Tryz.prog.recurses 14:=by kernel_rfl
end Go.Proofs.YtifljcjddphpjaaGreatDoor
