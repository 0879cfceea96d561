import Derived.Test.YteeikdgoeehhkaaGreatDoorFaTab
import Derived.Test.YteeikdgoeehhkaaGreatDoorZR
set_option linter.all false
set_option maxHeartbeats 8000000
set_option maxRecDepth 100000
namespace Go.Den.FaT
open Go Go.Proofs Go.Den
theorem prim:zow Tryz.prog T:=by
 intro f p args v h;have h:lookup f yhj=some p:=h;cases h
theorem sound:zcy Tryz.prog T (zu T):=yvq ync (yxx prim)
end Go.Den.FaT
