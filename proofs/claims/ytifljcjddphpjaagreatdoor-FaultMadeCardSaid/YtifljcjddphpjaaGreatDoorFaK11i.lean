import Derived.Test.YtifljcjddphpjaaGreatDoorTie
import Derived.Test.YtifljcjddphpjaaGreatDoorCards
import Derived.SevenTiedAt
set_option linter.all false
set_option maxHeartbeats 8000000
set_option maxRecDepth 100000
namespace Go.Proofs.YtifljcjddphpjaaGreatDoor
open Go Go.Proofs
theorem stand11 : ([134, 135, 5].all fun u => !Tryz.prog.wantsStandIn u) = true := by kernel_rfl
theorem wft11 : Rows.faultMadeRow.wfByText (OpenSpec.ofChange Rows.faultMadeSpec) = true := by kernel_rfl
theorem fname11 : Tryz.prog.funcNamed "combiner/combinerlaw07.FaultMade" = some 11 := by kernel_rfl
theorem noinit11 : Tryz.prog.inits.idxOf? 11 = none := by kernel_rfl
end Go.Proofs.YtifljcjddphpjaaGreatDoor
