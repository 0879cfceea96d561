import Derived.Test.YtifljcjddphpjaaGreatDoorTie
import Derived.Test.YtifljcjddphpjaaGreatDoorCards
import Derived.SevenTiedAt
set_option linter.all false
set_option maxHeartbeats 8000000
set_option maxRecDepth 100000
namespace Go.Proofs.YtifljcjddphpjaaGreatDoor
open Go Go.Proofs
theorem stand6 : ([25, 3, 48].all fun u => !Tryz.prog.wantsStandIn u) = true := by kernel_rfl
theorem wft6 : Rows.faultProofsRow.wfByText (OpenSpec.ofChange Rows.faultProofsSpec) = true := by kernel_rfl
theorem fname6 : Tryz.prog.funcNamed "combiner/combinerlaw07.FaultProofs" = some 6 := by kernel_rfl
theorem noinit6 : Tryz.prog.inits.idxOf? 6 = none := by kernel_rfl
end Go.Proofs.YtifljcjddphpjaaGreatDoor
