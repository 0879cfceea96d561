import Derived.Test.YtifljcjddphpjaaGreatDoorTie
import Derived.Test.YtifljcjddphpjaaGreatDoorCards
import Derived.SevenTiedAt
set_option linter.all false
set_option maxHeartbeats 8000000
set_option maxRecDepth 100000
namespace Go.Proofs.YtifljcjddphpjaaGreatDoor
open Go Go.Proofs
theorem stand5 : ([25].all fun u => !Tryz.prog.wantsStandIn u) = true := by kernel_rfl
theorem wft5 : Rows.faultLeastRow.wfByText (OpenSpec.ofChange Rows.faultLeastSpec) = true := by kernel_rfl
theorem fname5 : Tryz.prog.funcNamed "combiner/combinerlaw07.FaultLeast" = some 5 := by kernel_rfl
theorem noinit5 : Tryz.prog.inits.idxOf? 5 = none := by kernel_rfl
end Go.Proofs.YtifljcjddphpjaaGreatDoor
