import Derived.Test.YteeikdgoeehhkaaGreatDoorTie
set_option linter.all false
set_option maxHeartbeats 8000000
set_option maxRecDepth 100000
namespace Go.Proofs.YteeikdgoeehhkaaGreatDoor
open Go Go.Proofs
theorem yxa:Rows.topClampRepairedRow.inPlace=Tryz.prog.inPlace 4:=by kernel_rfl
end Go.Proofs.YteeikdgoeehhkaaGreatDoor
