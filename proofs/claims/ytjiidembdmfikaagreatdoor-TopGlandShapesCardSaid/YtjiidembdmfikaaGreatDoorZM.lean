import Derived.Test.YtjiidembdmfikaaGreatDoorZL
set_option linter.all false
set_option maxHeartbeats 8000000
set_option maxRecDepth 100000
namespace Go.Den
open Go
section
variable {P:Program} {T:Tab}
structure EvOk (P:Program) (T:Tab) (ih:Ih):Prop where
 call:zcs P T ih
 yld:zd8 P T ih
 loop:yoz P T ih
theorem xa9(hT:TabOk P T)(hF:FnsOk P T):∀n,EvOk P T (ev T n):=by
 intro n
 induction n with
 |zero=>
  refine⟨?_,?_,?_⟩
  ·intro f args H Fz S v H' Fz' S' h;simp[ev]at h
  ·intro n args S b S' h;simp[ev]at h
  ·intro rnd b k st out h;simp[ev]at h
 |succ n ihn=>
  have hrun:∀rnd items st out,runK (ev T n) T rnd qk items st=some out→RunGoal P T rnd items st out:=fun rnd items st out h=>
   yrp hT hF (xgg hT hF ihn.call) ihn.yld ihn.loop qk rnd items st out h
  refine⟨?_,?_,?_⟩
  ·intro f args H Fz S v H' Fz' S' h G Os w xs hx hg hb
   rw[yms]at h;exact xga hT hF (hrun false) h hx hg hb
  ·intro d args S b S' h G Os w H Fz xs hx hpu hyl hg
   rw[yms]at h;exact yo1 hT (hrun true) h hx hpu hyl hg
  ·intro rnd b k st out h
   simp only[ev]at h;exact hrun rnd _ _ _ h
end
end Go.Den
