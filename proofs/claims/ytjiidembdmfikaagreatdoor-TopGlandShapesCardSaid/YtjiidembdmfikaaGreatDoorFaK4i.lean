import Derived.Test.YtjiidembdmfikaaGreatDoorTie
import Derived.Test.YtjiidembdmfikaaGreatDoorCards
import Derived.SevenTiedAt
set_option linter.all false
set_option maxHeartbeats 8000000
set_option maxRecDepth 100000
namespace Go.Proofs.YtjiidembdmfikaaGreatDoor
open Go Go.Proofs
theorem yq5:([28].all fun u=> !Tryz.prog.wantsStandIn u)=true:=by kernel_rfl
theorem yqb:Rows.topGlandShapesRow.wfByText (OpenSpec.ofChange Rows.topGlandShapesSpec)=true:=by kernel_rfl
theorem fname4:Tryz.prog.funcNamed "combiner/combinertop.TopGlandShapes" =some 4:=by kernel_rfl
theorem noinit4:Tryz.prog.inits.idxOf? 4=none:=by kernel_rfl
end Go.Proofs.YtjiidembdmfikaaGreatDoor
