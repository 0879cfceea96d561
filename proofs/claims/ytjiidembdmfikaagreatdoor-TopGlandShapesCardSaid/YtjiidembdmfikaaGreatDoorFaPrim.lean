import Derived.Test.YtjiidembdmfikaaGreatDoorFaTab
import Derived.Test.YtjiidembdmfikaaGreatDoorZR
set_option linter.all false
set_option maxHeartbeats 8000000
set_option maxRecDepth 100000
namespace Go.Den.FaT
open Go Go.Proofs Go.Den
theorem prim:zoz Tryz.prog T:=by
 intro f p args v h;have h:lookup f ykw=some p:=h;cases h
theorem sound:zcs Tryz.prog T (zu T):=yxc yqo (xai prim)
end Go.Den.FaT
