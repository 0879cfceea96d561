import Derived.Test.YteeikdgoeehhkaaGreatDoorTie
import Derived.Test.YteeikdgoeehhkaaGreatDoorCards
import Derived.SevenTiedAt
set_option linter.all false
set_option maxHeartbeats 8000000
set_option maxRecDepth 100000
namespace Go.Proofs.YteeikdgoeehhkaaGreatDoor
open Go Go.Proofs
theorem yt3:Tryz.prog.mainIs=some (true, "30b0d29d8274fd8535d1da9868a149272b8cf585a568a34648bbfc9b2628fe38".toList):=by kernel_rfl
end Go.Proofs.YteeikdgoeehhkaaGreatDoor
