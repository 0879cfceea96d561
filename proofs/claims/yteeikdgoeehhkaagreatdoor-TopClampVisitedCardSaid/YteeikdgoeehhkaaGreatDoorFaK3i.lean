import Derived.Test.YteeikdgoeehhkaaGreatDoorTie
import Derived.Test.YteeikdgoeehhkaaGreatDoorCards
import Derived.SevenTiedAt
set_option linter.all false
set_option maxHeartbeats 8000000
set_option maxRecDepth 100000
namespace Go.Proofs.YteeikdgoeehhkaaGreatDoor
open Go Go.Proofs
theorem stand3 : ([28].all fun u => !Tryz.prog.wantsStandIn u) = true := by kernel_rfl
theorem wft3 : Rows.topClampVisitedRow.wfByText (OpenSpec.ofChange Rows.topClampVisitedSpec) = true := by kernel_rfl
theorem fname3 : Tryz.prog.funcNamed "combiner/combinertop.TopClampVisited" = some 3 := by kernel_rfl
theorem noinit3 : Tryz.prog.inits.idxOf? 3 = none := by kernel_rfl
end Go.Proofs.YteeikdgoeehhkaaGreatDoor
