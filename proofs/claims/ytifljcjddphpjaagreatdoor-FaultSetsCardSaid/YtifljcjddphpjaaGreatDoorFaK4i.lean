import Derived.Test.YtifljcjddphpjaaGreatDoorTie
import Derived.Test.YtifljcjddphpjaaGreatDoorCards
import Derived.SevenTiedAt
set_option linter.all false
set_option maxHeartbeats 8000000
namespace Go.Proofs.YtifljcjddphpjaaGreatDoor
open Go Go.Proofs
set_option maxRecDepth 100000
theorem stand4 : ([25, 28].all fun u => !Tryz.prog.wantsStandIn u) = true := by kernel_rfl
theorem wft4 : Rows.faultSetsRow.wfByText (OpenSpec.ofChange Rows.faultSetsSpec) = true := by kernel_rfl
theorem fname4 : Tryz.prog.funcNamed "combiner/combinerlaw07.FaultSets" = some 4 := by kernel_rfl
theorem noinit4 : Tryz.prog.inits.idxOf? 4 = none := by kernel_rfl
end Go.Proofs.YtifljcjddphpjaaGreatDoor
