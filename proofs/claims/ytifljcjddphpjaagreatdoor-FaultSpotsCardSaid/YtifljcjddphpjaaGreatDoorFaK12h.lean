import Derived.Test.YtifljcjddphpjaaGreatDoorTie
import Derived.Test.YtifljcjddphpjaaGreatDoorCards
import Derived.SevenTiedAt
set_option linter.all false
set_option maxHeartbeats 8000000
set_option maxRecDepth 100000
namespace Go.Proofs.YtifljcjddphpjaaGreatDoor
open Go Go.Proofs
theorem goesBy12 : false = Rows.faultSpotsRow.goesBy Tryz.prog := by kernel_rfl
theorem stand12 : ([82, 148, 48].all fun u => !Tryz.prog.wantsStandIn u) = true := by kernel_rfl
theorem wft12 : Rows.faultSpotsRow.wfByText (OpenSpec.ofChange Rows.faultSpotsSpec) = true := by kernel_rfl
theorem fname12 : Tryz.prog.funcNamed "combiner/combinerlaw07.FaultSpots" = some 12 := by kernel_rfl
theorem noinit12 : Tryz.prog.inits.idxOf? 12 = none := by kernel_rfl
end Go.Proofs.YtifljcjddphpjaaGreatDoor
