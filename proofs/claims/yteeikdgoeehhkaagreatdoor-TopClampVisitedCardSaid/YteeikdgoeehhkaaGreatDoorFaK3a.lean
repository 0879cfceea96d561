import Derived.Test.YteeikdgoeehhkaaGreatDoorTie
set_option linter.all false
set_option maxHeartbeats 8000000
set_option maxRecDepth 100000
namespace Go.Proofs.YteeikdgoeehhkaaGreatDoor
open Go Go.Proofs
theorem inPlace3 : Rows.topClampVisitedRow.inPlace = Tryz.prog.inPlace 3 := by kernel_rfl
end Go.Proofs.YteeikdgoeehhkaaGreatDoor
