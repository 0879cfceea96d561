import Derived.Test.YtjiidembdmfikaaGreatDoorFaK4a
import Derived.Test.YtjiidembdmfikaaGreatDoorFaK4b
import Derived.Test.YtjiidembdmfikaaGreatDoorFaK4c
import Derived.Test.YtjiidembdmfikaaGreatDoorFaK4d
import Derived.JoinedOf
set_option linter.all false
set_option maxHeartbeats 8000000
set_option maxRecDepth 100000
namespace Go.Proofs.YtjiidembdmfikaaGreatDoor
open Go Go.Proofs
theorem xfp:joinedFacts Tryz.prog 4 Tryz.f4 Rows.topGlandShapesSpec Rows.topGlandShapesRow=true:=by
 unfold joinedFacts;rw[←yyv,←yqh,←ysr,←yu5]
 kernel_rfl
end Go.Proofs.YtjiidembdmfikaaGreatDoor
