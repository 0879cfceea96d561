import Derived.Test.YtjiidembdmfikaaGreatDoorTie
set_option linter.all false
set_option maxHeartbeats 8000000
set_option maxRecDepth 100000
namespace Go.Proofs.YtjiidembdmfikaaGreatDoor
open Go Go.Proofs
theorem yu5:Rows.topGlandShapesRow.named=Tryz.prog.varsNamed 4:=by kernel_rfl
end Go.Proofs.YtjiidembdmfikaaGreatDoor
