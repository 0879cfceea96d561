import Derived.Test.YteeikdgoeehhkaaGreatDoorFaK4a
import Derived.Test.YteeikdgoeehhkaaGreatDoorFaK4b
import Derived.Test.YteeikdgoeehhkaaGreatDoorFaK4c
import Derived.Test.YteeikdgoeehhkaaGreatDoorFaK4d
import Derived.JoinedOf
set_option linter.all false
set_option maxHeartbeats 8000000
set_option maxRecDepth 100000
namespace Go.Proofs.YteeikdgoeehhkaaGreatDoor
open Go Go.Proofs
theorem xb9:joinedFacts Tryz.prog 4 Tryz.f4 Rows.topClampRepairedSpec Rows.topClampRepairedRow=true:=by
 unfold joinedFacts;rw[←yxa,←ym5,←yp6,←yth]
 kernel_rfl
end Go.Proofs.YteeikdgoeehhkaaGreatDoor
