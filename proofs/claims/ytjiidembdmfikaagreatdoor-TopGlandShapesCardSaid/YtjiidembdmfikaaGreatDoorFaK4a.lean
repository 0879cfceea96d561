import Derived.Test.YtjiidembdmfikaaGreatDoorTie
set_option linter.all false
set_option maxHeartbeats 8000000
set_option maxRecDepth 100000
namespace Go.Proofs.YtjiidembdmfikaaGreatDoor
open Go Go.Proofs
theorem yyv:Rows.topGlandShapesRow.inPlace=Tryz.prog.inPlace 4:=by kernel_rfl
end Go.Proofs.YtjiidembdmfikaaGreatDoor
