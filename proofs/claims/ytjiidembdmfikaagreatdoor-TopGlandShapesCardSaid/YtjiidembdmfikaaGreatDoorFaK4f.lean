import Derived.Test.YtjiidembdmfikaaGreatDoorTie
import Derived.Test.YtjiidembdmfikaaGreatDoorCards
import Derived.SevenTiedAt
set_option linter.all false
set_option maxHeartbeats 8000000
set_option maxRecDepth 100000
namespace Go.Proofs.YtjiidembdmfikaaGreatDoor
open Go Go.Proofs
theorem yvp:Tryz.prog.mainIs=some (true, "4e4bd954051256aa583db218789ebb6e167597a9280b80de5f88744b53171b8c".toList):=by kernel_rfl
end Go.Proofs.YtjiidembdmfikaaGreatDoor
