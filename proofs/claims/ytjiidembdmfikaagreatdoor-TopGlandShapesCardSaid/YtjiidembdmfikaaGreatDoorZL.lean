import Derived.Test.YtjiidembdmfikaaGreatDoorZK
set_option linter.all false
set_option maxHeartbeats 8000000
set_option maxRecDepth 100000
namespace Go.Den
open Go
section
variable {P:Program} {T:Tab} {slot:Option Nat} {m m':Mem} {x:V} {ih:Ih}
theorem Stp.noLoops'{G0 G Gc:Gh}{Os:List OG}{w w':World}{m:Mem}{H':zj}{Fz':Nat}(hg:Good T G Os w m)(hM:G0.M=G.M)(ho:∀b,G0.owns b→G.owns b)(hs:Stp (fun _=>False) G0 [] w Gc [] w')(hgd:Good T Gc [] w' ⟨H',Fz',[]⟩):
  Stp (fun _=>False) G0 Os w Gc Os w'∧Good T Gc Os w' ⟨H',Fz',m.S⟩:=by
 refine⟨⟨hs.le,hs.size,rfl,hs.owns,fun b hb=> .inl hb,fun b c hc=> ?_,fun b hb h1 h2 h3=>hs.keep b hb h1 w6 h3,.refl _ Os,hs.oo⟩,hgd.heap,hgd.mem,?_,fun b hb hf=> ?_⟩
 ·rcases hs.mem b c hc with h|h|h|h
  ·exact .inl h
  ·exact .inr (.inl h)
  ·exact absurd h w6
  ·exact .inr (.inr (.inr h))
 ·have hno:∀b,Den.frn Os b→¬G0.owns b:=fun b hb h=>hg.sep b (ho b h) hb
  exact hg.stk.still (fun b c hc=>hs.le.M b c (by rw[hM];exact hc)) (fun b hb=>hs.keep b (hg.stk.lt hb) (hno b hb) w6 (fun h=>h)) (fun b hb=>(za4 hs (hno b hb) w6 (hg.stk.lt hb)).trans (by rw[hM]))
 ·rcases hs.owns b hb with h|h
  ·exact hg.sep b (ho b h) hf
  ·have:=hg.stk.lt hf;omega
theorem xge(hT:TabOk P T)(hF:FnsOk P T)(hC:zcs P T ih){f:FuncId}(hb:T.byref f=true){args:List V}{k:V→Prog}(h:Res slot (callP ih T f args k) m x m'):
  ∃v m1,Res slot (k v) m1 x m'∧∀(G:Gh) (Os:List OG) (w:World) (xs:Array Value),RelLT G Os args xs→Good T G Os w m→zkd P T (z9 args) f G Os w xs v m1:=by
 unfold callP at h;rw[hb]at h;simp only at h;obtain⟨ids,hids,h⟩:=ysu h;obtain⟨q,hq,h⟩:=yvh h;replace h:=yr1 h;simp only[List.reverse_nil,List.nil_append]at h;have hqm:q=mask ids m.Fz 0:=Nat.eq_of_testBit_eq fun j=>Bool.eq_iff_iff.2 (by simpa using hq j);subst hqm;obtain⟨hcl,hroots,_⟩:=zgp _ _ _ _ hids List.nodup_nil (fun id hid=>by cases hid)
 have body:∀(v:V) (H':zj) (Fz':Nat) (S':xb) (kk:V→Prog),
   Res slot (optP (reach 10000 (List.range ids.length++idsV v) [] H') fun rs=> .base fun b=>
    vc ids (xh (z6 ids (xy ids.length rs) b) (H'.take ids.length))<|ql (xh (z6 ids (xy ids.length rs) b) (pick H' (xy ids.length rs)))<|
     qb (z6 ids (xy ids.length rs) b) Fz' rs (kk (xz (z6 ids (xy ids.length rs) b) v))) m x m'→
   ∃u mC,Res slot (kk u) mC x m'∧mC.S=m.S∧∀(G Gc:Gh) (Os Os':List OG) (w w':World) (xs:Array Value) (y:Value) (S2:xb),RelLT G Os args xs→Good T G Os w m→Stp (fun _=>False) (G.pickR ids) Os w Gc Os' w'→Good T Gc Os' w' ⟨H',Fz',S2⟩→Rel Gc v y→
    ∃G',Stp (fun _=>False) G Os w G' Os' w'∧Good T G' Os' w' ⟨mC.H,mC.Fz,S2⟩∧Rel G' u y:=by
  intro v H' Fz' S' kk h;obtain⟨rs,hrs,h⟩:=h.optP;obtain⟨b,hb1,hb2,h⟩:=h.base;obtain⟨hlen,mA,hA,h⟩:=yrk hcl.nodup h;obtain⟨mB,hB,h⟩:=yuz (m0:=m) hA.len hb1 hb2 h;obtain⟨mC,hC1,hC2,hC3,h⟩:=xae h;refine⟨_,mC,h,hC2.trans (hB.S.trans hA.S),fun G Gc Os Os' w w' xs y S2 hx hg hst hgd hv=> ?_⟩;obtain⟨hrcl,hrr,_⟩:=zgp _ _ _ _ hrs List.nodup_nil (fun id hid=>by cases hid);have hnf:∀id∈ids,G.R id≠ .fresh:=yss (p:=fun i=>G.R i≠ .fresh) (fun id r hr=>yr6 hg.heap hr) _ _ _ _ hids hx.ids (fun i hi=>by cases hi);obtain⟨h1,h2,h3⟩:=xh8 hg hcl hnf hst hgd hrcl (fun x hx=>hrr x (List.mem_append_left _ (List.mem_range.2 hx))) hA hB hC1 hC3;exact⟨_,h1,h2,h3 v y hv fun id hid=>hrr id (List.mem_append_right _ hid)⟩
  -- the arguments, the rows
 have argsOk:∀(G:Gh) (Os:List OG) (xs:Array Value),RelLT G Os args xs→RelLT (G.pickR ids) Os (x9 (idx ids) args) xs:=by
  intro G Os xs hx;refine⟨by rw[vl,List.length_map];exact hx.1,fun i v y hv hy=> ?_⟩;rw[vl,List.getElem?_map]at hv;cases ha:args[i]? with
  |none=>rw[ha]at hv;cases hv
  |some a=>
   rw[ha]at hv;simp only[Option.map_some,Option.some.injEq]at hv;subst hv;exact RelT.ren (G:=G) (G2:=G.pickR ids) (fun _ _ h=>h) (hx.2 i a y ha hy) fun id hid=>zg2 (hroots id (zat (List.mem_of_getElem? ha) hid))
 have goodOk:∀(G:Gh) (Os:List OG) (w:World),Good T G Os w m→Good T (G.pickR ids) Os w ⟨xh (idx ids) (pick m.H ids),mask ids m.Fz 0,m.S⟩:=fun G Os w hg=>
  ⟨zm5 hg.heap hcl,hg.mem.of rfl fun g cs hcs=>by obtain⟨_,_,_,h3,_⟩:=hg.mem.glob g cs hcs;exact h3,hg.stk,fun b hb=>hg.sep b (zbf hb)⟩
 cases hy:z9 args with
 |false=>
  rw[hy]at h;simp only[withStk]at h;obtain⟨⟨v,H',Fz',S'⟩,hcall,h⟩:=h.optP;simp only at h;cases S' with
  |cons o S'=>
   exfalso;obtain⟨u,mC,h,_⟩:=body v H' Fz' [] (fun _=> .fail) h;exact h.fail
  |nil=>
   obtain⟨u,mC,h,hS,hr⟩:=body v H' Fz' [] (fun u=>toP (qu T f u fun v=>some (k v))) h;obtain⟨p,hp,h⟩:=h.toP;obtain⟨fn,v',hfn,hp,hsame⟩:=zei hp;simp only[Option.some.injEq]at hp;subst hp;refine⟨v',mC,h,fun G Os w xs hx hg=> .inl ⟨zgl hT hF hfn (.inl hb) xs w,?_⟩⟩;have hyv:=za8.1 hy;have hx0:RelLT G [] args xs:=⟨hx.1,fun i a b ha hb=>((hx.2 i a b ha hb).rel (hyv a (List.mem_of_getElem? ha))).toT⟩;have hg0:Good T G [] w ⟨m.H,m.Fz,[]⟩:=⟨hg.heap,hg.mem,⟨rfl,fun d own O hd=>by simp at hd,fun d e O O' b hO=>by simp at hO⟩,fun b hb h=>w6 h⟩;have hgp:=goodOk G Os w hg;have hgp0:Good T (G.pickR ids) [] w ⟨xh (idx ids) (pick m.H ids),mask ids m.Fz 0,[]⟩:=⟨hgp.heap,hgp.mem,hg0.stk,fun b hb h=>w6 h⟩;refine(hC f _ _ _ [] v H' Fz' [] hcall (G.pickR ids) [] w xs (argsOk G [] xs hx0) hgp0 (fun hbf=>by rw[hb]at hbf;cases hbf)).mono ?_;rintro e w' ⟨y,Gc,Os',rfl,hrel,hst,hgd,_⟩;have:Os'= []:=by have:=hst.sig;simpa using this
   subst this;obtain⟨n1,n2⟩:=Stp.noLoops' (G0:=G.pickR ids) hg rfl (fun b hb=>zbf hb) hst hgd;obtain⟨G',g1,g2,g3⟩:=hr G Gc Os Os w w' xs y m.S hx hg n1 n2 hrel;refine⟨y,G',Os,rfl,hsame _ _ g3,g1,?_⟩;rw[←hS]at g2;exact g2
 |true=>
  rw[hy]at h;simp only[withStk]at h;replace h:=h.stk;obtain⟨⟨v,H',Fz',S'⟩,hcall,h⟩:=h.optP;simp only at h;obtain⟨u,mC,h,hS,hr⟩:=body v H' Fz' S' (fun u=> .setStk S' (toP (qu T f u fun v=>some (k v)))) h;replace h:=h.setStk;obtain⟨p,hp,h⟩:=h.toP;obtain⟨fn,v',hfn,hp,hsame⟩:=zei hp;simp only[Option.some.injEq]at hp;subst hp;refine⟨v',_,h,fun G Os w xs hx hg=> .inl ⟨zgl hT hF hfn (.inl hb) xs w,?_⟩⟩;refine(hC f _ _ _ m.S v H' Fz' S' hcall (G.pickR ids) Os w xs (argsOk G Os xs hx) (goodOk G Os w hg) (fun hbf=>by rw[hb]at hbf;cases hbf)).mono ?_;rintro e w' ⟨y,Gc,Os',rfl,hrel,hst,hgd,_⟩;obtain⟨G',g1,g2,g3⟩:=hr G Gc Os Os' w w' xs y S' hx hg hst hgd hrel;exact⟨y,G',Os',rfl,hsame _ _ g3,g1,g2⟩
theorem xgg(hT:TabOk P T)(hF:FnsOk P T)(hC:zcs P T ih):za7 P T ih:=by
 intro slot f args k m x m' h;cases hb:T.byref f with
 |true=>exact xge hT hF hC hb h
 |false=>exact xgd hT hF hC hb h
end
end Go.Den
