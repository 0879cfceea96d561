import Derived.Test.YtjiidembdmfikaaGreatDoorTie
import Derived.Test.YtjiidembdmfikaaGreatDoorCards
import Derived.SevenTiedAt
set_option linter.all false
set_option maxHeartbeats 8000000
set_option maxRecDepth 100000
namespace Go.Proofs.YtjiidembdmfikaaGreatDoor
open Go Go.Proofs
theorem yw8:false=Tryz.prog.looks []:=by kernel_rfl
end Go.Proofs.YtjiidembdmfikaaGreatDoor
