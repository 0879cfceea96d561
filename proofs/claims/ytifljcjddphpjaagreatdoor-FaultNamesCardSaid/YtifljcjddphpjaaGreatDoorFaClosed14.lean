import Derived.Test.YtifljcjddphpjaaGreatDoorFaK14a
import Derived.Test.YtifljcjddphpjaaGreatDoorFaK14b
import Derived.Test.YtifljcjddphpjaaGreatDoorFaK14c
import Derived.Test.YtifljcjddphpjaaGreatDoorFaK14d
import Derived.JoinedOf
set_option linter.all false
set_option maxHeartbeats 8000000
set_option maxRecDepth 100000
namespace Go.Proofs.YtifljcjddphpjaaGreatDoor
open Go Go.Proofs
theorem xi7:joinedFacts Tryz.prog 14 Tryz.f14 Rows.faultNamesSpec Rows.faultNamesRow=true:=by
 unfold joinedFacts;rw[←xda,←ys8,←yv6,←yyl]
 kernel_rfl
end Go.Proofs.YtifljcjddphpjaaGreatDoor
