import Derived.Test.YtifljcjddphpjaaGreatDoorFaDoor
import Derived.Test.YtifljcjddphpjaaGreatDoorFaX3
import Derived.Test.YtifljcjddphpjaaGreatDoorFaM11
set_option linter.all false
set_option maxHeartbeats 8000000
set_option maxRecDepth 100000
namespace Go.Proofs.YtifljcjddphpjaaGreatDoor
open Go Go.Proofs Go.Den Go.Den.FaT Go.ChangeShapes Go.WideShapes Go.ChangeAt Go.RowKit
theorem awake:(zy T).call 16 [] [] 0 []=some (.bool true,[],0,[]):=yma
theorem xcn{al:List V}(h:al.length=2∧∀(i:Nat) t a,[25,166][i]? =some t→al[i]? =some a→∃us,Cl Tryz.prog 12 t us∧a=mk Tryz.prog t us):(zy T).call 14 al [] 0 []=some (.bool true,[],0,[]):=by
 obtain⟨hl,h⟩:=h
 match al,hl with
 | [a,s],_=>
  obtain⟨us,h1,rfl⟩:=h 0 25 a rfl rfl;obtain⟨us2,h2,rfl⟩:=h 1 166 s rfl rfl;obtain⟨p,hp⟩:=xjd h1;obtain⟨a,b,c,hq,ha,hb,hc⟩:=xjg h2;rw[hp,hq];exact c14 awake p a b c ha hb hc
theorem xb7(os:Os)(started:os.Started)(H:Type)(enc:TypeId×Value→H):
  ReturnsInHanded {} Tryz.checked os 14 .any (fun w args=>(Rows.faultNamesSpec.pre enc Tryz.prog Tryz.f14 [] false w args∧laidMetH Tryz.prog laidL w)∧sizedMet enc Tryz.prog Tryz.f14 (OpenSpec.ofChange Rows.faultNamesSpec) false w args)
   (Rows.faultNamesSpec.post enc Tryz.prog Tryz.f14 false true false false):=by
 refine returnsInHanded_of_change_and (C:=Tryz.checked) (X:=fun w _=>laidMetH Tryz.prog laidL w) (fun _ _ _ hh h=>h.of_heap hh) own started (by kernel_rfl) Tryz.func14
  (ChangeSpec.witness_shaped (enc:=enc) (C:=Tryz.checked) (os:=os) (X:=fun w _=>laidMetH Tryz.prog laidL w) false (zi9 os) #[.agg #[.slice none 0 0,.int .i64 0,.slice none 0 0],.agg #[.int .u8 0,.int .u8 0,.int .u8 0]] 8 (xia os) (xh9 os _) (by kernel_rfl) (by kernel_rfl) (by kernel_rfl) (xib os _)) ?_
 intro W base args ds gs before hval0 hW _ _ hL _;have hval:∀(j:Nat) t v,Tryz.f14.params[j]? =some t→args[j]? =some v→Value.okWide Tryz.prog W .any base t v:=hval0;have hW':=hW;obtain⟨p,q,hA0,hV,rfl,hfz,hnd⟩:=hW;have hA:DataW.TrodAll enc Tryz.prog W 0 (fun _=>true) true Tryz.f14.params.toList args.toList ds p:=hA0;have hV:DataW.TrodVars enc Tryz.prog W (fun _=>true) [] gs q:=hV;obtain⟨rfl,rfl⟩:=trodVars_none hV;rw[Tryz.params14]at hA hval;obtain⟨al,r1,r2,r3⟩:=yqs (n:=12) (by kernel_rfl) hA (fun j t v h1 h2=>hval j t v (by simpa using h1) (by simpa using h2));refine(xjy sound (by kernel_rfl) (xcn ⟨r2,r3⟩) r1 (yx9 hL)).mono ?_;rintro e W' ⟨rfl,hs,hk,ho⟩;refine⟨_,rfl,xcm (tb:=4) rfl rfl Tryz.underlying4 ?_ laidOut (by kernel_rfl) hW' hs hk ho⟩;obtain⟨v0,v1,d0,d1,p0,p1,_,rfl,_⟩:=trodAll_two hA;rfl
end Go.Proofs.YtifljcjddphpjaaGreatDoor
