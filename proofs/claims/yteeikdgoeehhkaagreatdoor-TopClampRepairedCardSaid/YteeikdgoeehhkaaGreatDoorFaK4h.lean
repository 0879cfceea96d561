import Derived.Test.YteeikdgoeehhkaaGreatDoorTie
import Derived.Test.YteeikdgoeehhkaaGreatDoorCards
import Derived.SevenTiedAt
set_option linter.all false
set_option maxHeartbeats 8000000
set_option maxRecDepth 100000
namespace Go.Proofs.YteeikdgoeehhkaaGreatDoor
open Go Go.Proofs
theorem yxn:false=Rows.topClampRepairedRow.goesBy Tryz.prog:=by kernel_rfl
end Go.Proofs.YteeikdgoeehhkaaGreatDoor
