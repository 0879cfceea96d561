import Derived.Test.YtjiidembdmfikaaGreatDoorTie
set_option linter.all false
set_option maxHeartbeats 8000000
set_option maxRecDepth 100000
namespace Go.Proofs.YtjiidembdmfikaaGreatDoor
open Go Go.Proofs
theorem yqh:Rows.topGlandShapesRow.unfollowed=Tryz.prog.unfollowed 4:=by kernel_rfl
end Go.Proofs.YtjiidembdmfikaaGreatDoor
