import Derived.Test.YtifljcjddphpjaaGreatDoorTie
import Derived.Test.YtifljcjddphpjaaGreatDoorCards
import Derived.SevenTiedAt
set_option linter.all false
set_option maxHeartbeats 8000000
set_option maxRecDepth 100000
namespace Go.Proofs.YtifljcjddphpjaaGreatDoor
open Go Go.Proofs
theorem stand8 : ([82, 3].all fun u => !Tryz.prog.wantsStandIn u) = true := by kernel_rfl
theorem wft8 : Rows.faultPicturesRow.wfByText (OpenSpec.ofChange Rows.faultPicturesSpec) = true := by kernel_rfl
theorem fname8 : Tryz.prog.funcNamed "combiner/combinerlaw07.FaultPictures" = some 8 := by kernel_rfl
theorem noinit8 : Tryz.prog.inits.idxOf? 8 = none := by kernel_rfl
end Go.Proofs.YtifljcjddphpjaaGreatDoor
