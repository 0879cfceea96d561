import Derived.Test.YtifljcjddphpjaaGreatDoorTie
import Derived.Test.YtifljcjddphpjaaGreatDoorCards
import Derived.SevenTiedAt
set_option linter.all false
set_option maxHeartbeats 8000000
set_option maxRecDepth 100000
namespace Go.Proofs.YtifljcjddphpjaaGreatDoor
open Go Go.Proofs
theorem yt4:([25,166].all fun u=> !Tryz.prog.wantsStandIn u)=true:=by kernel_rfl
theorem ys2:Rows.faultNamesRow.wfByText (OpenSpec.ofChange Rows.faultNamesSpec)=true:=by kernel_rfl
theorem fname14:Tryz.prog.funcNamed "combiner/combinerlaw07.FaultNames" =some 14:=by kernel_rfl
theorem noinit14:Tryz.prog.inits.idxOf? 14=none:=by kernel_rfl
end Go.Proofs.YtifljcjddphpjaaGreatDoor
