import Derived.Test.YteeikdgoeehhkaaGreatDoorFaX4
import Derived.Test.YteeikdgoeehhkaaGreatDoorFaClosed4
import Derived.Test.YteeikdgoeehhkaaGreatDoorFaK4f
import Derived.Test.YteeikdgoeehhkaaGreatDoorFaK4g
import Derived.Test.YteeikdgoeehhkaaGreatDoorFaK4h
import Derived.Test.YteeikdgoeehhkaaGreatDoorFaK4i
set_option linter.all false
set_option maxHeartbeats 8000000
set_option maxRecDepth 100000
namespace Go.Proofs.YteeikdgoeehhkaaGreatDoor
open Go Go.Proofs Go.Den Go.Den.FaT Go.ChangeShapes Go.WideShapes Go.ChangeAt Go.RowKit
theorem yw5:Tryz.f4.isInstance Tryz.prog Rows.topClampRepairedRow.origin Rows.topClampRepairedRow.targs:=of_decide_eq_true (by kernel_rfl)
theorem ymz:Tryz.f4.isWrapper Tryz.prog Rows.topClampRepairedRow.wrapper Rows.topClampRepairedRow.mainSum:=by
 unfold Func.isWrapper
 first|(rw[if_pos (by decide+kernel)];kernel_rfl)|(rw[if_neg (by decide+kernel)];exact⟨rfl,rfl⟩)
theorem yna:Rows.TopClampRepairedSaid:=
 OpenClaim.holds_of_wide 4 Tryz.f4 rfl rfl rfl rfl rfl rfl rfl ⟨rfl,rfl,rfl,rfl,rfl⟩ rfl rfl rfl rfl rfl fname4 Tryz.func4 xb9 yw5 ymz
  (fun os started H enc _=>yvu os started H enc)
theorem topClampRepaired_card:Rows.TopClampRepairedCardSaid:=
 Claim7.holds_tied_plain_at .later [] [.funcs] true (true, "30b0d29d8274fd8535d1da9868a149272b8cf585a568a34648bbfc9b2628fe38") false
  yna (fun _ h=>by cases h) ym0 (fun _ h=>by cases h) topClampRepaired_row_tie rfl ⟨rfl,rfl⟩ yt3 rfl
  (fun f fn hf hfn=>by
   obtain rfl:f=4:=Option.some.inj (fname4.symm.trans hf)|>.symm;obtain rfl:fn=Tryz.f4:=(Option.some.inj (Tryz.func4.symm.trans hfn)).symm
   exact⟨yvn,fun j t ht=>by
    have ht:Tryz.f4.params[j]? =some t:=ht;rw[Tryz.params4]at ht;have hm:t∈ [72]:=by simpa using Array.mem_of_getElem? ht
    exact(show Tryz.prog.wantsStandIn t=false by simpa using List.all_eq_true.1 yog t hm)⟩)
  yxn
end Go.Proofs.YteeikdgoeehhkaaGreatDoor
