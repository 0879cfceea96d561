import Derived.Test.YtjiidembdmfikaaGreatDoorFaX4
import Derived.Test.YtjiidembdmfikaaGreatDoorZR
import Derived.Test.YtjiidembdmfikaaGreatDoorFaS0
import Derived.Test.YtjiidembdmfikaaGreatDoorFaX3
import Derived.Test.YtjiidembdmfikaaGreatDoorFaX0
import Derived.Test.YtjiidembdmfikaaGreatDoorFaDoor
set_option linter.all false
set_option maxHeartbeats 8000000
set_option maxRecDepth 100000
noncomputable section
namespace Go.Den.FaT
open Go Go.Proofs Go.Den
theorem ms5:(zu T).call 78 [.int .i64 5] [] 0 []=some (.fn 185 [.pp 1 [.sl true 1 ((setsN 5).map (k8 (seZ 5)))] 0 0],[],0,[]):=zdk we 100000 (by kernel_rfl)
def zbc(z:Nat)(l:List Nat):List V:=l.map fun b=>k8 z ((List.range 6).filterMap fun i=>bif b.testBit i then some (Int.ofNat i)else none)
def qf0:FactG:=⟨182,[.ref 0,.int .i64 12,.int .i64 34,.int .i64 7,.fn 140 []],35,zbc 1 [0,1,2,4,8,16,32,3,5,9,17,33,34,13,14,49,11,10,18,19,20,21,22,48,24,25,41,40,12,37,36,35,7,6,38,31,30,29,28,39,27,26,42,43,44,45,46,47,23,15,50,51,52,53,54,55,56,57,58,59,60,61,62,63],.tup [],zbc 1 [0,1,2,4,8,16,32,3,5,9,17,33,6,10,18,34,12,20,36,24,40,48,7,11,19,35,13,21,37,25,41,49,14,22,38,31,30,29,28,39,27,26,42,43,44,45,46,47,23,15,50,51,52,53,54,55,56,57,58,59,60,61,62,63]⟩
theorem qo0:qf0.ok T:=by unfold FactG.ok;exact zev we (zfe T) 100000 (by kernel_rfl)
def qf1:FactG:=⟨182,[.ref 0,.int .i64 35,.int .i64 41,.int .i64 7,.fn 140 []],35,zbc 1 [0,1,2,4,8,16,32,3,5,9,17,33,6,10,18,34,12,20,36,24,40,48,7,11,19,35,13,21,37,25,41,49,14,22,38,26,52,50,28,44,42,56,27,43,39,45,46,47,23,15,29,51,30,53,54,55,31,57,58,59,60,61,62,63],.tup [],zbc 1 [0,1,2,4,8,16,32,3,5,9,17,33,6,10,18,34,12,20,36,24,40,48,7,11,19,35,13,21,37,25,41,49,14,22,38,26,42,50,28,44,52,56,27,43,39,45,46,47,23,15,29,51,30,53,54,55,31,57,58,59,60,61,62,63]⟩
theorem qo1:qf1.ok T:=by unfold FactG.ok;exact zev we (zcc qo0 (zfe T)) 100000 (by kernel_rfl)
def qf2:FactG:=⟨182,[.ref 0,.int .i64 42,.int .i64 52,.int .i64 7,.fn 140 []],35,zbc 1 [0,1,2,4,8,16,32,3,5,9,17,33,6,10,18,34,12,20,36,24,40,48,7,11,19,35,13,21,37,25,41,49,14,22,38,26,42,50,28,44,52,56,27,43,39,45,57,53,23,15,29,51,30,47,54,55,31,46,58,59,60,61,62,63],.tup [],zbc 1 [0,1,2,4,8,16,32,3,5,9,17,33,6,10,18,34,12,20,36,24,40,48,7,11,19,35,13,21,37,25,41,49,14,22,38,26,42,50,28,44,52,56,15,23,39,27,43,51,29,45,53,57,30,47,54,55,31,46,58,59,60,61,62,63]⟩
theorem qo2:qf2.ok T:=by unfold FactG.ok;exact zev we (zcc qo1 (zcc qo0 (zfe T))) 100000 (by kernel_rfl)
def qf3:FactG:=⟨139,[.ref 0,.fn 140 []],35,zbc 0 [0,1,2,3,4,5,6,7,8,9,10,11,12,13,14,15,16,17,18,19,20,21,22,23,24,25,26,27,28,29,30,31,32,33,34,35,36,37,38,39,40,41,42,43,44,45,46,47,48,49,50,51,52,53,54,55,56,57,58,59,60,61,62,63],.tup [],zbc 1 [0,1,2,4,8,16,32,3,5,9,17,33,6,10,18,34,12,20,36,24,40,48,7,11,19,35,13,21,37,25,41,49,14,22,38,26,42,50,28,44,52,56,15,23,39,27,43,51,29,45,53,57,30,46,54,58,60,31,47,55,59,61,62,63]⟩
theorem qo3:qf3.ok T:=by unfold FactG.ok;exact zev we (zcc qo2 (zcc qo1 (zcc qo0 (zfe T)))) 100000 (by kernel_rfl)
theorem ms6:(zu T).call 78 [.int .i64 6] [] 0 []=some (.fn 185 [.pp 1 [.sl true 1 ((setsN 6).map (k8 (seZ 6)))] 0 0],[],0,[]):=zev we (zcc qo3 (zfe T)) 100000 (by kernel_rfl)
theorem c136(n:Nat)(h:n≤6):(zu T).call 78 [.int .i64 n] [] 0 []=some (.fn 185 [.pp 1 [.sl true 1 ((setsN n).map (k8 (seZ n)))] 0 0],[],0,[]):=by
 match n,h with
 |0,_=>exact ms0
 |1,_=>exact ms1
 |2,_=>exact ms2
 |3,_=>exact ms3
 |4,_=>exact ms4
 |5,_=>exact ms5
 |6,_=>exact ms6
theorem zks(n:Nat)(h:n≤6):((setsN n).length≤64∧0<(setsN n).length)∧(∀s∈setsN n,∀i∈s,0≤i∧i<(n:Int))∧(∀s∈setsN n,s.length≤6)∧(setsN n).Pairwise (fun a b=>a.length≤b.length):=by
 match n,h with
 |0,_=>decide+kernel
 |1,_=>decide+kernel
 |2,_=>decide+kernel
 |3,_=>decide+kernel
 |4,_=>decide+kernel
 |5,_=>decide+kernel
 |6,_=>decide+kernel
theorem yq9{p:Pk}(h6:p.c.length≤6):Sok p:=
 ⟨(zks _ h6).1.1,fun x hx=>⟨by have:=(zks _ h6).2.2.1 x hx;omega,(zks _ h6).2.1 x hx⟩,c136 _ h6⟩
def zal(a x:Int×Int):Bool:=a.1==x.1&&a.2==x.2
def zax(x:Int×Int)(l:List (Int×Int)):Bool:=l.any fun a=>zal a x
theorem xhq(a x:Int×Int)(b:Bool)(pr:List (Int×Int))(i:Nat)(hi:pr[i]? =some x):(zu T).call 85 [.agg [.int .i64 a.1,.int .i64 a.2],.pp 1 [.sl b 2 (pr.map ptV)] 0 0,.pp 1 [.int .i64 i] 0 0] [] 0 []=some (.bool (zal a x),[],0,[]):=by
 rw[xbs];have h2:decide (0≤(i:Int)∧(i:Int)<(pr.length:Int))=true:=decide_eq_true (by have:=(List.getElem?_eq_some_iff.1 hi).1;omega);unfold zal;simp -implicitDefEqProofs only[go_sem,simprocAttr,h2,hi]
def zb4(x:Int×Int):Nat→List (Int×Int)→Int
 |_,[]=> -1
 |i,a::r=>bif zal a x then i else zb4 x (i+1) r
theorem yyy(x:Int×Int):∀(l:List (Int×Int)) (i:Nat),decide (0≤zb4 x i l)=zax x l:=by
 intro l
 induction l with
 |nil=>intro i;rfl
 |cons a r ih=>
  intro i;rw[show zb4 x i (a::r)=bif zal a x then(i:Int)else zb4 x (i+1) r from rfl,show zax x (a::r)=(zal a x||zax x r)from rfl,←ih (i+1)];cases zal a x<;>simp
theorem yv8(x:Int×Int)(b bp:Bool)(pr:List (Int×Int))(k:Nat)(hk:pr[k]? =some x)(l:List (Int×Int))(hb:l.length<1000000):∀i,i≤l.length→(zu T).loop false [.code (.loop zjn),.inBlock 0,.code (.seq zlu .ret)] ⟨149,19,0,[(0,.sl b 2 (l.map ptV)),(1,.fn 85 [.pp 1 [.sl bp 2 (pr.map ptV)] 0 0,.pp 1 [.int .i64 k] 0 0]),(7,.int .i64 l.length),(8,.int .i64 i)],[],0,[]⟩=
  some (.ret (.int .i64 (zb4 x i (l.drop i))),[],0,[]):=by
 refine xq l.length ?_ fun i hi ih=> ?_
 ·have h1:=z8 l.length
  rw[zx,List.drop_of_length_le (Nat.le_refl _)];simp -implicitDefEqProofs only[go_sem,simprocAttr,h1];rfl
 ·obtain⟨h1,h2,h3,h4,h5⟩:=zl hi (by omega)
  have e:=xhq l[i] x bp pr k hk;rw[zx,h5];simp only[zb4];cases h6:zal l[i] x
  ·rw[h6]at e
   simp only[cond_false];rw[←ih];simp -implicitDefEqProofs only[go_sem,simprocAttr,h1,h2,h3,h4,e]
  ·rw[h6]at e
   simp only[cond_true];simp -implicitDefEqProofs only[go_sem,simprocAttr,h1,h2,h3,h4,e]
theorem yn8(x:Int×Int)(b bp:Bool)(pr:List (Int×Int))(k:Nat)(hk:pr[k]? =some x)(l:List (Int×Int))(hb:l.length<1000000):(zu T).call 86 [.sl b 2 (l.map ptV),.fn 85 [.pp 1 [.sl bp 2 (pr.map ptV)] 0 0,.pp 1 [.int .i64 k] 0 0]] [] 0 []=some (.bool (zax x l),[],0,[]):=by
 have h:=yv8 x b bp pr k hk l hb 0 (by omega);rw[show((0:Nat):Int)=0 from rfl,List.drop_zero]at h
 have e:(zu T).call 149 [.sl b 2 (l.map ptV),.fn 85 [.pp 1 [.sl bp 2 (pr.map ptV)] 0 0,.pp 1 [.int .i64 k] 0 0]] [] 0 []=some (.int .i64 (zb4 x 0 l),[],0,[]):=by
  rw[xdt];simp -implicitDefEqProofs only[go_sem,simprocAttr,h]
 rw[xbr];simp -implicitDefEqProofs only[go_sem,simprocAttr,e,zb8,yyy]
def zkg(nv s:Nat)(x:Int×Int):Bool:=((decide (x.1<0)||decide ((nv:Int)≤x.1))||decide (x.2<0))||decide ((s:Int)≤x.2)
def knP(nv s:Nat)(x:Int×Int):Int:=cond (zkg nv s x) 10 0
theorem yn9(p:Pk)(ho:Ok p)(a b:Int):(zu T).call 83 [.agg [.int .i64 a,.int .i64 b],.pp 3 [z5 p] 0 0] [] 0 []=some (.int .i64 (knP p.v.length (xr p) (a,b)),[],0,[]):=by
 rw[xbt];obtain⟨r0,g1,g2,g3⟩:=yrb ho;unfold knP zkg;simp only;cases h1:decide (a<0)
 ·cases h2:decide ((p.v.length:Int)≤a)
  ·cases h3:decide (b<0)
   ·simp -implicitDefEqProofs only[go_sem,simprocAttr,z5,h1,h2,h3,g1,g2,g3,zb8,jz,Bool.false_or]
   ·simp -implicitDefEqProofs only[go_sem,simprocAttr,z5,h1,h2,h3,zb8,jz,Bool.false_or,Bool.true_or]
  ·simp -implicitDefEqProofs only[go_sem,simprocAttr,z5,h1,h2,zb8,jz,Bool.false_or,Bool.true_or]
 ·simp -implicitDefEqProofs only[go_sem,simprocAttr,z5,h1,jz,Bool.true_or]
theorem ywr(p:Pk)(hok:Ok p)(b:Bool)(l:List (Int×Int))(hb:l.length<1000000):∀i,i≤l.length→∀o:Option (List (Int)),ki o=i→
  (zu T).loop false [.code (.loop ziv),.inBlock 0,.code (.seq zk3 .ret)] ⟨84,22,0,[(1,.fn 83 [.pp 3 [z5 p] 0 0]),(5,uj o 0),(8,.sl b 2 (l.map ptV)),(9,.int .i64 l.length),(10,.int .i64 i)],uv intV o 39,0,[]⟩=
   some (.ret (yp intV 0 1 (j6 o ((l.drop i).map (fun x=>knP p.v.length (xr p) x)))),[],0,[]):=by
 refine xq l.length ?_ fun i hi ih o ho=> ?_
 ·intro o ho
  rw[zx];have h1:=z8 l.length;cases o with
  |none=>
   simp -implicitDefEqProofs only[go_sem,simprocAttr,h1];simp[j6,yp]
  |some a=>
   simp -implicitDefEqProofs only[go_sem,simprocAttr,h1];simp[j6,yp]
 ·obtain⟨h1,h2,h3,h4,h5⟩:=zl hi (by omega)
  rw[zx,h5];have ih':=ih (j6 o [((fun x=>knP p.v.length (xr p) x) l[i])]) (by rw[yw,ho];rfl);rw[yy]at ih';dsimp only at ih';cases o with
  |none=>
   have h8:=xw (n:=0) (by omega);simp only[v9,qx,qq,List.map_cons,List.map_nil,intV]at ih';simp -implicitDefEqProofs only[go_sem,simprocAttr,h1,h2,h3,h4,ih',h8.2,yn9 p hok]
  |some a=>
   have h9:a.length=i:=ho;have h8:=(xw (n:=a.length) (by omega)).1;simp only[v7,qx,qq,List.map_append,List.map_cons,List.map_nil,intV]at ih';simp -implicitDefEqProofs only[go_sem,simprocAttr,h1,h2,h3,h4,ih',h8,yn9 p hok]
theorem xhs(p:Pk)(hok:Ok p)(b:Bool)(l:List (Int×Int))(hb:l.length<1000000):(zu T).call 84 [.sl b 2 (l.map ptV),.fn 83 [.pp 3 [z5 p] 0 0]] [] 0 []=some (yr 1 (((l).map (fun x=>knP p.v.length (xr p) x)).map intV),[],0,[]):=by
 rw[ymy];have h:=ywr p hok b l hb 0 (by omega) none rfl;rw[show((0:Nat):Int)=0 from rfl,List.drop_zero,yj]at h;simp only[ji,j0]at h;simp -implicitDefEqProofs only[go_sem,simprocAttr,h]
def fwr(n:Int)(L:List (List Int)):List (List Int):=L.filter fun s=>decide ((s.length:Int)<n)
theorem ymd(n:Int)(x:List Int)(L:List (List Int)):fwr n (x::L)=(bif decide ((x.length:Int)<n)then [x]else [])++fwr n L:=by
 unfold fwr;by_cases h:(x.length:Int)<n<;>simp[h]
theorem gA2{B L:zj}{N:Nat}(h:B.length=N):(B++L)[N+2]? =L[2]? :=by subst h;rw[List.getElem?_append_right (by omega)];congr 1;omega
abbrev zn7:Row:= .cells true false 31 [.ref 1]
def xi2(H:zj)(out:List (Int×Int)):Prop:=
 (out= []∧∃fl,H[3]? =some (.cells true fl 22 [.sl false 0 []]))∨(out≠ []∧∃m fl,H[3]? =some (.cells true fl 22 [.ref m])∧H[m]? =some (.cells false true 76 (out.map ptV))∧3<m∧m<H.length)
structure In45 (p:Pk) (L:List (List Int)) (H:zj) (out:List (Int×Int)):Prop where
 n:4≤H.length
 h0:H[0]? =some (.cells true true 44 [z5 p])
 h1:H[1]? =some (qf L)
 h2:H[2]? =some zn7
 o:xi2 H out
theorem yys(p:Pk)(L:List (List Int))(env:Den.Env)(he:xx env 6= .ptr 3 0 0)(H:zj)(out:List (Int×Int))(x:Int×Int)(hll:out.length<1000)(hI:In45 p L H out)(N:Nat)(hN:H.length=N):
  ∃H',In45 p L H' (out++ [x])∧runK (zu T) T true qk [.code zj4,.beginRound,.code zim] ⟨24,38,N,(32,ptV x)::env,H,0,[]⟩=some (.round (some (.exit 1)),H',0,[]):=by
 obtain⟨hn,h0,h1,h2,ho⟩:=hI;have n3:3<N:=by omega
 have d1:decide (N<N+1)=true:=by simp
 have d2:decide (3<N+3)=true:=decide_eq_true (by omega);have d2':decide (3<N+2)=true:=decide_eq_true (by omega);rcases ho with⟨rfl,fl,h3⟩|⟨ho,m,fl,h3,hm,hm3,hmN⟩
 ·have h8:=(xw (n:=0) (by omega)).2
  refine⟨H.set 3 (.cells true false 22 [.ref (N+2)])++ [.cells true true 76 [ptV x],.cells false true 76 [ptV x],.cells false true 76 [ptV x]],⟨by simp;omega,?_,?_,?_,.inr ⟨by simp,N+2,false,?_,?_,by omega,by simp[hN]⟩⟩,?_⟩
  ·rw[List.getElem?_append_left (by simp;omega),List.getElem?_set_ne (by omega),h0]
  ·rw[List.getElem?_append_left (by simp;omega),List.getElem?_set_ne (by omega),h1]
  ·rw[List.getElem?_append_left (by simp;omega),List.getElem?_set_ne (by omega),h2]
  ·rw[List.getElem?_append_left (by simp;omega),List.getElem?_set_self (by omega)]
  ·rw[gA2 (by simp;exact hN)];rfl
  ·simp -implicitDefEqProofs only[go_sem,simprocAttr,he,h3,hN,n3,gA,ub,sA,List.getElem?_append_left,List.set_append_left,List.append_assoc,List.length_set,h8,d1,d2,d2',Nat.zero_shiftRight,Nat.and_zero,Nat.zero_or]
 ·have h8:=(xw (n:=out.length) (by omega)).1
  have d4:decide (m<N+2)=true:=decide_eq_true (by omega);have hmN':m<N:=by omega
  have hd3:(H.set m .dead)[3]? =some (.cells true fl 22 [.ref m]):=by rw[List.getElem?_set_ne (by omega),h3]
  refine⟨(H.set m .dead).set 3 (.cells true false 22 [.ref (N+2)])++ [.cells true true 76 [ptV x],.cells false true 76 [ptV x],.cells false true 76 ((out++ [x]).map ptV)],⟨by simp;omega,?_,?_,?_,.inr ⟨by simp,N+2,false,?_,?_,by omega,by simp[hN]⟩⟩,?_⟩
  ·rw[List.getElem?_append_left (by simp;omega),List.getElem?_set_ne (by omega),List.getElem?_set_ne (by omega),h0]
  ·rw[List.getElem?_append_left (by simp;omega),List.getElem?_set_ne (by omega),List.getElem?_set_ne (by omega),h1]
  ·rw[List.getElem?_append_left (by simp;omega),List.getElem?_set_ne (by omega),List.getElem?_set_ne (by omega),h2]
  ·rw[List.getElem?_append_left (by simp;omega),List.getElem?_set_self (by simp;omega)]
  ·rw[gA2 (by simp;exact hN)];rfl
  ·simp only[List.map_append,List.map_cons,List.map_nil]
   simp -implicitDefEqProofs only[go_sem,simprocAttr,he,h3,hm,hd3,hN,n3,hmN',gA,ub,sA,List.getElem?_append_left,List.set_append_left,List.append_assoc,List.length_set,h8,d1,d2,d2',d4,Nat.zero_shiftRight,Nat.and_zero,Nat.zero_or]
def zfg(p:Pk)(x x0:List Int)(caps:List V)(env:Den.Env):Den.Env:=
 (31,.fn 147 caps)::(30,.sl (!x.isEmpty) 1 (x.map intV))::(29,z5 p)::(28,.bool false)::(27,.int .i64 x0.length)::(26,.sl (!x0.isEmpty) 1 (x0.map intV))::(25,.ptr 1 0 0)::(24,.ref 1)::(23,.int .i64 x.length)::
  (22,.sl (!x.isEmpty) 1 (x.map intV))::(7,.sl (!x.isEmpty) 1 (x.map intV))::(21,.sl (!x.isEmpty) 1 (x.map intV))::env
theorem xbi(p:Pk)(x x0:List Int)(caps:List V)(env:Den.Env)(he:xx env 6= .ptr 3 0 0):xx (zfg p x x0 caps env) 6= .ptr 3 0 0:=by
 unfold zfg;simp -implicitDefEqProofs only[go_sem,simprocAttr,he]
def wc(p:Pk)(x x0:List Int)(caps:List V)(env:Den.Env)(H:zj)(d:Bool)(pd:Option Code)(N:Nat):Own:=⟨24,38,zfg p x x0 caps env,H,0,[32],zj4,zim,d,pd,N⟩
theorem ysb(p:Pk)(ho:Ok p)(L:List (List Int))(x0:List Int)(hx0:L[0]? =some x0)(env:Den.Env)(he1:xx env 1= .ptr 0 0 0)(he4:xx env 4= .ptr 2 0 0)(he6:xx env 6= .ptr 3 0 0)(H:zj)(out:List (Int×Int))(hol:out.length<1000)
  (x:List Int)(hx:x.length<1000000)(hv:k5 p x)(hI:In45 p L H out)(N:Nat)(hN:H.length=N)(hlt:decide ((x0.length:Int)≤x.length)=false):
  ∃H',In45 p L H' (out++(vg p x).take 1)∧runK (zu T) T true qk [.code zco,.beginRound,.code zck] ⟨24,38,N,(21,qe x)::env,H,0,[]⟩=some (.round none,H',0,[]):=by
 obtain⟨caps,i1,i2,hcl,e1⟩:∃caps,zi caps= []∧z9 caps=false∧zct caps (vg p x)∧(zu T).call 79 [z5 p,.sl (!x.isEmpty) 1 (x.map intV)] [] 0 []=some (.fn 147 caps,[],0,[]):=
  ⟨zcj p x,(zci p x).1,(zci p x).2,call125 p ho x,zip p ho (!x.isEmpty) 1 x hx hv (fun _=>rfl)⟩
 have hI0:=hI;obtain⟨hn,h0,h1,h2,_⟩:=hI;have d0:decide (0<(L.length:Int))=true:=decide_eq_true (by have:=(List.getElem?_eq_some_iff.1 hx0).1;omega);have h0':=h0;have e1':=e1;simp only[z5]at h0' e1'
 have start:∀R,(∀own',(zu T).call 147 (.yld (List.length ([]:xb))::caps) [] 0 ([]++ [wc p x x0 caps env H false none N])=some (.tup [],[],0,[]++ [own'])→
   runK (zu T) T true 99988 (match own'.pending with|some c=> .code c:: [.inBlock 2,.inBlock 1]|none=> [.inBlock 2,.inBlock 1]) ⟨own'.fn,own'.nt,N,own'.env,own'.H,own'.Fz,[]⟩=R→
   runK (zu T) T true qk [.code zco,.beginRound,.code zck] ⟨24,38,N,(21,qe x)::env,H,0,[]⟩=R):=by
  intro R own' hc hR;simp -implicitDefEqProofs only[go_sem,simprocAttr,he1,he4,h0',h1,h2,hN,d0,hx0,zb8,hlt,e1',i1];unfold wc zfg z5 at hc;rw[zbe (f:= .tmp 31) (g:=147) (caps:=caps) (S:= []) (ps:= #[32]) rfl i1 i2 zag.1 zag.2.1 zej rfl hc];exact hR
 cases hxs:vg p x with
 |nil=>
  refine⟨H,by rw[List.take_nil,List.append_nil];exact hI0,?_⟩;refine start _ (wc p x x0 caps env H false none N) ?_ ?_
  ·rw[hxs]at hcl
   exact hcl _ _ true rfl
  ·simp only[wc]
   simp -implicitDefEqProofs only[go_sem,simprocAttr]
 |cons y ys=>
  obtain⟨H',hI',hr⟩:=yys p L (zfg p x x0 caps env) (xbi p x x0 caps env he6) H out y hol hI0 N hN;refine⟨H',by rw[show(y::ys).take 1= [y]from rfl];exact hI',?_⟩
  have hY:=za9 (S:= []) (own:=wc p x x0 caps env H false none N) (by kernel_rfl) rfl (args:= [ptV y]) rfl (by
   simp only[wc];rw[hN];exact hr)
  have hY':(zu T).yld 0 [ptV y] [wc p x x0 caps env H false none N]=some (false,[wc p x x0 caps env H' true (some (.exit 1)) N]):=hY;refine start _ (wc p x x0 caps env H' true (some (.exit 1)) N) ?_ ?_
  ·rw[hxs]at hcl
   refine hcl _ _ false ?_;show(match (zu T).yld 0 [ptV y] [wc p x x0 caps env H false none N]with|some (true,S')=>qj T 0 (ys.map ptV) S'|o=>o)=_;rw[hY'];rfl
  ·simp only[wc]
   simp -implicitDefEqProofs only[go_sem,simprocAttr]
theorem xie(p:Pk)(L:List (List Int))(x0:List Int)(hx0:L[0]? =some x0)(env:Den.Env)(he4:xx env 4= .ptr 2 0 0)(H:zj)(out:List (Int×Int))(x:List Int)(hI:In45 p L H out)(N:Nat)(hlt:decide ((x0.length:Int)≤x.length)=true):
  runK (zu T) T true qk [.code zco,.beginRound,.code zck] ⟨24,38,N,(21,qe x)::env,H,0,[]⟩=some (.round (some (.exit 0)),H,0,[]):=by
 obtain⟨hn,h0,h1,h2,_⟩:=hI;have d0:decide (0<(L.length:Int))=true:=decide_eq_true (by have:=(List.getElem?_eq_some_iff.1 hx0).1;omega);simp -implicitDefEqProofs only[go_sem,simprocAttr,he4,h1,h2,d0,hx0,zb8,hlt]
def pfL(p:Pk)(k:Nat):List (List Int)→List (Int×Int)
 | []=> []
 |s::r=>bif decide ((k:Int)≤s.length)then []else(vg p s).take 1++pfL p k r
def zar(env:Den.Env)(H:zj)(d:Bool)(pd:Option Code):Own:=⟨24,38,env,H,0,[21],zco,zck,d,pd,0⟩
theorem yr7(p:Pk)(ho:Ok p)(L:List (List Int))(x0:List Int)(hx0:L[0]? =some x0)(env:Den.Env)(he1:xx env 1= .ptr 0 0 0)(he4:xx env 4= .ptr 2 0 0)(he6:xx env 6= .ptr 3 0 0):∀(xs:List (List Int)),(∀x∈xs,x.length<1000000∧k5 p x)→∀(H:zj) (out:List (Int×Int)),In45 p L H out→out.length+xs.length<900→
  ∃b H' pd,In45 p L H' (out++pfL p x0.length xs)∧(pd=none∨pd=some (.exit 0))∧qj T 0 (xs.map qe) [zar env H false none]=some (b,[zar env H' pd.isSome pd]):=by
 intro xs
 induction xs with
 |nil=>intro _ H out hI _;exact⟨true,H,none,by rw[show pfL p x0.length []= []from rfl,List.append_nil];exact hI,.inl rfl,rfl⟩
 |cons x xs ih=>
  intro hx H out hI hl;simp only[List.length_cons]at hl;obtain⟨x1,x2⟩:=hx x (by simp);cases hlt:decide ((x0.length:Int)≤x.length)
  ·obtain⟨H1,hI1,hr⟩:=ysb p ho L x0 hx0 env he1 he4 he6 H out (by omega) x x1 x2 hI H.length rfl hlt
   have hY:=za9 (S:= []) (own:=zar env H false none) (by kernel_rfl) rfl (args:= [qe x]) rfl hr;have hY':(zu T).yld 0 [qe x] [zar env H false none]=some (true,[zar env H1 false none]):=hY;have htl:((vg p x).take 1).length≤1:=by rw[List.length_take];omega
   obtain⟨b,H',pd,j1,j2,j3⟩:=ih (fun y hy=>hx y (by simp[hy])) H1 _ hI1 (by rw[List.length_append];omega);refine⟨b,H',pd,?_,j2,?_⟩
   ·rw[List.append_assoc]at j1
    rw[show pfL p x0.length (x::xs)=bif decide ((x0.length:Int)≤x.length)then []else(vg p x).take 1++pfL p x0.length xs from rfl,hlt];exact j1
   ·simp only[List.map_cons,qj]
    rw[hY'];exact j3
  ·have hr:=xie p L x0 hx0 env he4 H out x hI H.length hlt
   have hY:=za9 (S:= []) (own:=zar env H false none) (by kernel_rfl) rfl (args:= [qe x]) rfl hr;have hY':(zu T).yld 0 [qe x] [zar env H false none]=some (false,[zar env H true (some (.exit 0))]):=hY;refine⟨false,H,some (.exit 0),?_,.inr rfl,?_⟩
   ·rw[show pfL p x0.length (x::xs)=bif decide ((x0.length:Int)≤x.length)then []else(vg p x).take 1++pfL p x0.length xs from rfl,hlt,cond_true,List.append_nil]
    exact hI
   ·simp only[List.map_cons,qj]
    rw[hY'];rfl
def zce(p:Pk):Den.Env:= [(20,.fn 185 (vy p.c.length)),(19,.int .i64 p.c.length),(18,.sl p.cb 3 (p.c.map czV)),(17,.ptr 0 0 2),(6,.ptr 3 0 0),(15,.bool false),(14,.int .i64 0),(5,.int .i64 0),(4,.ptr 2 0 0),(13,.int .i64 0),
 (12,.ref 1),(9,.tup [.ref 1,.int .i64 0]),(11,.tup [.ref 1,.int .i64 0]),(10,z5 p),(3,.int .i64 0),(2,.sl false 0 []),(1,.ptr 0 0 0),(0,z5 p)]
theorem c45(p:Pk)(hf:p.fit)(h:vi p=0)(hs:Sok p)(hx:exA p≠ [])(x0:List Int)(hx0:(exA p)[0]? =some x0):(zu T).call 24 [z5 p] [] 0 []=some (.tup [yr 2 ((pfL p x0.length (setsN p.c.length)).map ptV),.int .i64 0],[],0,[]):=by
 have e:=yod p hf h hs hx;have e1:=hs.c136;have hl:=hs.len;obtain⟨b,H',pd,j1,j2,j3⟩:=yr7 p (zg5 h) (exA p) x0 hx0 (zce p) rfl rfl rfl (setsN p.c.length) hs.el [.cells true true 44 [z5 p],qf (exA p),zn7,.cells true true 22 [.sl false 0 []]] [] ⟨by simp,rfl,rfl,rfl,.inl ⟨rfl,true,rfl⟩⟩ (by simp;omega);rw[List.nil_append]at j1
 have hc:(zu T).call 185 (.yld (List.length ([]:xb))::vy p.c.length) [] 0 ([]++ [⟨24,38,zce p,[.cells true true 44 [z5 p],qf (exA p),zn7,.cells true true 22 [.sl false 0 []]],0,(#[21]:Array Nat).toList,zco,zck,false,none,0⟩])=some (.tup [],[],0,[]++ [zar (zce p) H' pd.isSome pd]):=
  zn6 _ _ 0 (by omega) _ _ b j3
 have start:∀R,zb0 (runK (zu T) T false 99981 (match pd with|some c=> .code c:: [.inBlock 0,.code (r24_11.seq .ret),.inScope zgk]|none=> [.inBlock 0,.code (r24_11.seq .ret),.inScope zgk]) ⟨24,38,0,zce p,H',0,[]⟩)=R→(zu T).call 24 [z5 p] [] 0 []=R:=by
  intro R hR;rw[xcv];simp only[z5]at e;simp -implicitDefEqProofs only[go_sem,simprocAttr,z5,e,e1];unfold zce z5 at hc;rw[zbe (f:= .tmp 20) (g:=185) (caps:=vy p.c.length) (S:= []) (ps:= #[21]) rfl rfl rfl zdu.1 zdu.2.1 zky rfl hc];unfold zce z5 at hR;exact hR
 obtain⟨hn,h0,h1,h2,ho⟩:=j1;refine start _ ?_;unfold zce;generalize pfL p x0.length (setsN p.c.length)=out at*;rcases ho with⟨rfl,fl,h3⟩|⟨hne,m,fl,h3,hm,_,_⟩
 ·rcases j2 with rfl|rfl
  ·simp -implicitDefEqProofs only[go_sem,simprocAttr,h3]
   rfl
  ·simp -implicitDefEqProofs only[go_sem,simprocAttr,h3]
   rfl
 ·rw[yri _ _ (by simpa using hne)]
  rcases j2 with rfl|rfl
  ·simp -implicitDefEqProofs only[go_sem,simprocAttr,h3,hm]
  ·simp -implicitDefEqProofs only[go_sem,simprocAttr,h3,hm]
def zka(H:zj)(l:List (List Int)):Prop:=1≤H.length∧
 ((l= []∧∃fl,H[0]? =some (.cells true fl 31 [.sl false 0 []]))∨(l≠ []∧∃m fl,H[0]? =some (.cells true fl 31 [.ref m])∧H[m]? =some (qf l)∧0<m∧m<H.length))
theorem ysc(env:Den.Env)(he:xx env 2= .ptr 0 0 0)(H:zj)(l:List (List Int))(x:List Int)(hll:l.length<1000)(hI:zka H l)(N:Nat)(hN:H.length=N):
  ∃H',zka H' (l++ [x])∧runK (zu T) T true qk [.code zf8,.beginRound,.code zfq] ⟨148,13,N,(7,qe x)::env,H,0,[]⟩=some (.round none,H',0,[]):=by
 obtain⟨hn,hI⟩:=hI;have n0:0<N:=by omega
 have d2:decide (0<N+2)=true:=decide_eq_true (by omega);rcases hI with⟨rfl,fl,h1⟩|⟨hl,m,fl,h1,hm,hm1,hmN⟩
 ·have h8:=(xw (n:=0) (by omega)).2
  refine⟨H.set 0 (.cells true false 31 [.ref (N+1)])++ [.cells false true 35 [qe x],.cells false true 35 [qe x]],⟨by simp,.inr ⟨by simp,N+1,false,?_,?_,by omega,by simp[hN]⟩⟩,?_⟩
  ·rw[List.getElem?_append_left (by simp;omega),List.getElem?_set_self (by omega)]
  ·rw[ub (by simp;exact hN)];rfl
  ·simp -implicitDefEqProofs only[go_sem,simprocAttr,he,h1,hN,n0,gA,ub,sA,List.getElem?_append_left,List.set_append_left,List.append_assoc,List.length_set,h8,d2,Nat.zero_shiftRight,Nat.and_zero,Nat.zero_or]
 ·have h8:=(xw (n:=l.length) (by omega)).1
  have d4:decide (m<N+1)=true:=decide_eq_true (by omega);have hmN':m<N:=by omega
  have hd1:(H.set m .dead)[0]? =some (.cells true fl 31 [.ref m]):=by rw[List.getElem?_set_ne (by omega),h1]
  refine⟨(H.set m .dead).set 0 (.cells true false 31 [.ref (N+1)])++ [.cells false true 35 [qe x],.cells false true 35 ((l++ [x]).map qe)],⟨by simp,.inr ⟨by simp,N+1,false,?_,?_,by omega,by simp[hN]⟩⟩,?_⟩
  ·rw[List.getElem?_append_left (by simp;omega),List.getElem?_set_self (by simp;omega)]
  ·rw[ub (by simp;exact hN)];rfl
  ·simp only[List.map_append,List.map_cons,List.map_nil]
   simp -implicitDefEqProofs only[go_sem,simprocAttr,he,h1,hm,hd1,hN,n0,hmN',gA,ub,sA,List.getElem?_append_left,List.set_append_left,List.append_assoc,List.length_set,h8,d2,d4,Nat.zero_shiftRight,Nat.and_zero,Nat.zero_or]
def zfh(n:Nat):Den.Env:= [(6,.fn 185 (vy n)),(4,.sl false 0 []),(2,.ptr 0 0 0),(0,.sl false 0 []),(1,.fn 185 (vy n))]
def zb2(n:Nat)(H:zj):Own:=⟨148,13,zfh n,H,0,[7],zf8,zfq,false,none,0⟩
theorem yr8(n:Nat):∀(xs:List (List Int)) (H:zj) (l:List (List Int)),zka H l→l.length+xs.length<1000→∃H',zka H' (l++xs)∧qj T 0 (xs.map qe) [zb2 n H]=some (true,[zb2 n H']):=by
 intro xs
 induction xs with
 |nil=>intro H l hI _;exact⟨H,by rw[List.append_nil];exact hI,rfl⟩
 |cons x xs ih=>
  intro H l hI hl;simp only[List.length_cons]at hl;obtain⟨H1,hI1,hr⟩:=ysc (zfh n) rfl H l x (by omega) hI H.length rfl;have hy:=za9 (S:= []) (own:=zb2 n H) (by kernel_rfl) rfl (args:= [qe x]) rfl hr;obtain⟨H',j1,j2⟩:=ih H1 _ hI1 (by rw[List.length_append,List.length_singleton];omega);refine⟨H',by rw[List.append_assoc]at j1;exact j1,?_⟩;have hy':(zu T).yld 0 [qe x] [zb2 n H]=some (true,[zb2 n H1]):=hy;simp only[List.map_cons,qj];rw[hy'];exact j2
theorem xgs(n:Nat)(hl:(setsN n).length≤64)(hne:setsN n≠ []):∃H' m,H'[m]? =some (qf (setsN n))∧(zu T).call 148 [.sl false 0 [],.fn 185 (vy n)] [] 0 []=some (.ref m,H',0,[]):=by
 obtain⟨H',⟨i1,i2⟩,hy⟩:=yr8 n (setsN n) [.cells true true 31 [.sl false 0 []]] [] ⟨by simp,.inl ⟨rfl,true,rfl⟩⟩ (by simp;omega);rw[List.nil_append]at i2;rcases i2 with⟨h,_⟩|⟨_,m,fl,h1,h2,_,_⟩
 ·exact absurd h hne
 refine⟨H',m,h2,?_⟩
 have e:(zu T).call 185 (.yld (List.length ([]:xb))::vy n) [] 0 ([]++ [⟨148,13,zfh n,[.cells true true 31 [.sl false 0 []]],0,(#[7]:Array Nat).toList,zf8,zfq,false,none,0⟩])=some (.tup [],[],0,[]++ [zb2 n H']):=
  zn6 _ _ 0 (by omega) _ _ true hy
 rw[xdu];simp -implicitDefEqProofs only[go_sem,simprocAttr];unfold zfh at e;rw[zbe (f:= .tmp 6) (g:=185) (caps:=vy n) (S:= []) (ps:= #[7]) rfl rfl rfl zdu.1 zdu.2.1 zky rfl e];simp only[zb2,zfh];simp -implicitDefEqProofs only[go_sem,simprocAttr,h1]
theorem yob(n:Nat)(hl:(setsN n).length≤64)(hne:setsN n≠ []):(zu T).call 81 [.fn 185 (vy n)] [] 0 []=some (.ref 0,[qf (setsN n)],0,[]):=by
 obtain⟨H',m,h1,h2⟩:=xgs n hl hne;rw[xbv];simp -implicitDefEqProofs only[go_sem,simprocAttr,h1,h2]
theorem yoa(n:Int)(s:List Int):(zu T).call 82 [.sl (!s.isEmpty) 1 (s.map intV),.pp 1 [.int .i64 n] 0 0] [] 0 []=some (.bool (decide (n≤(s.length:Int))),[],0,[]):=by
 rw[xbu];simp -implicitDefEqProofs only[go_sem,simprocAttr,zb8]
abbrev cN(n:Int):Row:= .cells true true 3 [.int .i64 n]
abbrev f139:V:= .fn 82 [.ptr 1 0 0]
structure CutN (n:Int) (l:List (List Int)) (k:Nat):Prop where
 le:k≤l.length
 ha:∀i (h:i<l.length),i<k→(l[i].length:Int)<n
 hb:∀i (h:i<l.length),k≤i→n≤(l[i].length:Int)
 hm:l.length<1000
 h0:0<l.length
def za5(l:List (List Int))(n:Int)(i:Nat)(z:Nat):Option Out:=
 (zu T).loop false [.code (.loop zf2),.inBlock 0,.code (.seq zgy .ret)]
  ⟨120,19,2,[(0,.ref 0),(1,f139),(7,.int .i64 l.length),(8,.int .i64 i)],[qf l,cN n],z,[]⟩
theorem zkn(n:Int)(l:List (List Int))(k:Nat)(hc:CutN n l k)(i:Nat)(hi:i<l.length)(z:Nat)(hz:z=0∨z=2):za5 l n i z=if i<k then za5 l n (i+1) 2 else some (.ret (.int .i64 i),[qf l,cN n],2,[]):=by
 have hm:=hc.hm;obtain⟨h1,h2,h3,h4,h5⟩:=zl hi (by omega);have e:=yoa n l[i];by_cases h:i<k
 ·have hb:decide (n≤(l[i].length:Int))=false:=by have:=hc.ha i hi h;simp;omega
  rw[if_pos h]
  conv=>lhs;unfold za5;rw[zx]
  unfold za5;rcases hz with rfl|rfl
  ·simp -implicitDefEqProofs only[go_sem,simprocAttr,h1,h2,h3,h4,e,hb]
  ·simp -implicitDefEqProofs only[go_sem,simprocAttr,h1,h2,h3,h4,e,hb]
 ·have hb:decide (n≤(l[i].length:Int))=true:=by have:=hc.hb i hi (by omega);simp;omega
  rw[if_neg h];unfold za5;rw[zx];rcases hz with rfl|rfl
  ·simp -implicitDefEqProofs only[go_sem,simprocAttr,h1,h2,h3,h4,e,hb]
  ·simp -implicitDefEqProofs only[go_sem,simprocAttr,h1,h2,h3,h4,e,hb]
theorem ywe(n:Int)(l:List (List Int))(k:Nat)(hc:CutN n l k):∀i,i≤k→za5 l n i 2=some (.ret (.int .i64 (if k=l.length then -1 else k)),[qf l,cN n],2,[]):=by
 have hm:=hc.hm;have hn:=hc.le;refine xq k ?_ fun i hi ih=> ?_
 ·by_cases hE:k=l.length
  ·have h1:=z8 l.length
   unfold za5;rw[if_pos hE,zx];subst hE;simp -implicitDefEqProofs only[go_sem,simprocAttr,h1]
  ·rw[zkn n l k hc k (by omega) 2 (.inr rfl),if_neg (by omega),if_neg hE]
 ·rw[zkn n l k hc i (by omega) 2 (.inr rfl),if_pos hi,ih]
theorem xg0(n:Int)(l:List (List Int))(k:Nat)(hc:CutN n l k):(zu T).call 120 [.ref 0,f139] [qf l,cN n] 0 []=some (.int .i64 (if k=l.length then -1 else k),[qf l,cN n],2,[]):=by
 have h:za5 l n 0 0=some (.ret (.int .i64 (if k=l.length then -1 else k)),[qf l,cN n],2,[]):=by
  have h0:=hc.h0;rw[zkn n l k hc 0 h0 0 (.inl rfl)];by_cases h:0<k
  ·rw[if_pos h,ywe n l k hc 1 (by omega)]
  ·rw[if_neg h,if_neg (by omega),show k=0 by omega]
 unfold za5 at h;rw[show((0:Nat):Int)=0 from rfl]at h;rw[ym4];simp -implicitDefEqProofs only[go_sem,simprocAttr,h]
theorem xgh(n:Int)(l:List (List Int))(k:Nat)(hc:CutN n l k)(kk:V→Prog)(S:xb)(rd wr fr:Nat)(sk:Bool)(K:V→zj→Nat→xb→FP→Option Out):(callP (zu T) T 120 [.ref 0,.fn 82 [.ptr 1 0 0]] kk).go none [.cells false true 35 (l.map qe),.cells true true 3 [.int .i64 n]] 0 S ⟨rd,wr,fr,sk⟩ K=
  (kk (.int .i64 (if k=l.length then -1 else k))).go none [.cells false true 35 (l.map qe),.cells true true 3 [.int .i64 n]] 2 S ⟨rd|||bit 0|||bit 1|||bit 0|||bit 1,wr|||bit 0|||bit 1|||bit 0|||bit 1,fr|||bit 1,sk⟩ K:=by
 refine(zhw (x:=0) (y:=1) ymp.1 rfl kk (fun k'=>zgq (by omega) rfl rfl 9996 k') rfl rfl rfl rfl rfl rfl (xg0 n l k hc) rfl).trans ?_;simp -implicitDefEqProofs only[go_sem,simprocAttr]
def zj7(l:List (List Int))(n:Int)(k j:Nat):Option Out:=
 (zu T).loop false [.code (.loop zfv),.inBlock 0,.code (.seq zgs (.seq zgr .ret))]
  ⟨54,42,2,[(0,.ref 0),(1,f139),(5,.int .i64 k),(6,.int .i64 j)],[qf l,cN n],2,[]⟩
theorem ywt(n:Int)(l:List (List Int))(k:Nat)(hc:CutN n l k):∀j,j≤l.length→k≤j→zj7 l n k j=some (.ret (.sub 0 0 k),[.cells false true 35 (clr l k),cN n],2,[]):=by
 have hm:=hc.hm;have hn:=hc.le;refine xq l.length ?_ fun j hj ih=> ?_
 ·intro _
  unfold zj7;rw[zx];have h1:=z8 l.length;have d1:decide (k≤l.length)=true:=decide_eq_true hn;have d2:decide (0≤(k:Int))=true:=decide_eq_true (by omega);have d3:decide (k≤l.length∧l.length≤l.length)=true:=decide_eq_true ⟨hn,Nat.le_refl _⟩;have d4:decide (0≤k∧k≤(List.take k (List.map qe l)).length+((List.replicate (l.length- k) (V.sl false 0 [])).length+(List.drop (k+(l.length- k)) (List.map qe l)).length))=true:=decide_eq_true ⟨Nat.zero_le _,by simp;omega⟩;simp -implicitDefEqProofs only[go_sem,simprocAttr,h1,d1,d2,d3,d4,Nat.sub_zero]
 ·intro hAj
  obtain⟨h1,h2,h3,h4,h5⟩:=zl hj (by omega);have e:=yoa n l[j];have hb:decide (n≤(l[j].length:Int))=true:=by have:=hc.hb j hj hAj;simp;omega
  rw[←ih (by omega)];unfold zj7
  conv=>lhs;rw[zx]
  simp -implicitDefEqProofs only[go_sem,simprocAttr,h1,h2,h3,h4,e,hb]
theorem yoc(n:Int)(l:List (List Int))(k:Nat)(hc:CutN n l k):(zu T).call 54 [.ref 0,f139] [qf l,cN n] 0 []=if k=l.length then some (.ref 0,[qf l,cN n],2,[])else some (.sub 0 0 k,[.cells false true 35 (clr l k),cN n],2,[]):=by
 rw[ymz];have e:=xgh n l k hc;have hm:=hc.hm;have hn:=hc.le;by_cases hE:k=l.length
 ·rw[if_pos hE]
  simp only[if_pos hE]at e;simp -implicitDefEqProofs only[go_sem,simprocAttr,e]
 ·rw[if_neg hE]
  simp only[if_neg hE]at e;have hb:((k:Int)== -1)=false:=by simp
  have hw:IntKind.i64.wrap ((k:Int)+1)=((k+1:Nat):Int):=by rw[wrap64]<;>omega
  have h:=ywt n l k hc (k+1) (by omega) (by omega);unfold zj7 at h;simp -implicitDefEqProofs only[go_sem,simprocAttr,e,hb,hw,h]
theorem zpc(n:Int):∀(l:List (List Int)),l.Pairwise (fun a b=>a.length≤b.length)→∃k,k≤l.length∧fwr n l=l.take k∧(∀i (h:i<l.length),i<k→(l[i].length:Int)<n)∧(∀i (h:i<l.length),k≤i→n≤(l[i].length:Int)):=by
 intro l
 induction l with
 |nil=>intro _;exact⟨0,by simp,by simp[fwr],by intro i h;exact absurd h (by simp),by intro i h;exact absurd h (by simp)⟩
 |cons a r ih=>
  intro hp;obtain⟨ha,hp2⟩:=List.pairwise_cons.1 hp;by_cases h:(a.length:Int)<n
  ·obtain⟨k,h1,h2,h3,h4⟩:=ih hp2
   refine⟨k+1,by simp;omega,?_,?_,?_⟩
   ·rw[ymd,h2,decide_eq_true h,cond_true,List.take_succ_cons];rfl
   ·intro i hi hn
    cases i with
    |zero=>exact h
    |succ i=>simpa using h3 i (by simpa using hi) (by omega)
   ·intro i hi hn
    cases i with
    |zero=>omega
    |succ i=>simpa using h4 i (by simpa using hi) (by omega)
  ·have hall:∀s∈a::r,n≤(s.length:Int):=by
    intro s hs;rcases List.mem_cons.1 hs with rfl|hs
    ·omega
    ·have:=ha s hs;omega
   refine⟨0,by simp,?_,fun i _ h=>by omega,fun i hi _=>hall _ (List.getElem_mem hi)⟩;unfold fwr;rw[List.take_zero,List.filter_eq_nil_iff];intro s hs;have:=hall s hs;simp;omega
def zbp(p:Pk):List (List Int)→List (Int×Int)→Int
 |s::L,x::r=>bif zax x (vg p s)then zbp p L r else 19
 |_,_=>0
def zea(p:Pk)(W:List (List Int))(R:List V)(pr:List (Int×Int))(i z:Nat):Option Out:=
 (zu T).loop false [.code (.loop zd4),.inBlock 0,.code (.seq zen .ret)]
  ⟨26,67,0,[(3,.ptr 0 0 0),(5,.ptr 1 0 0),(51,.ref 2),(52,.int .i64 W.length),(53,.int .i64 i)],[.cells true true 44 [z5 p],.cells true true 22 [.sl true 2 (pr.map ptV)],.cells false true 35 R],z,[]⟩
theorem yv2(p:Pk)(ho:Ok p)(W:List (List Int))(hW:W.length<1000)(hel:∀x∈W,x.length<1000000∧k5 p x)(R:List V)(hR:∀i (h:i<W.length),R[i]? =some (qe W[i]))(hlen:R.length=W.length)(pr:List (Int×Int))(hp:pr.length=W.length):∀i,i≤W.length→∀z,z=1∨z=3→zea p W R pr i z=some (.ret (.int .i64 (zbp p (W.drop i) (pr.drop i))),[],0,[]):=by
 refine xq W.length ?_ fun i hi ih=> ?_
 ·intro z hz
  unfold zea;have h1:=z8 W.length;rw[zx,List.drop_of_length_le (Nat.le_refl _),List.drop_of_length_le (by omega)];rcases hz with rfl|rfl
  ·simp -implicitDefEqProofs only[go_sem,simprocAttr,z5,h1]
   rfl
  ·simp -implicitDefEqProofs only[go_sem,simprocAttr,z5,h1]
   rfl
 ·intro z hz
  obtain⟨h1,h2,h3,h4,h5⟩:=zl hi (by omega);obtain⟨g1,g2,g3,g4,g5⟩:=zl (l:=pr) (i:=i) (by omega) (by omega);obtain⟨x1,x2⟩:=hel _ (List.getElem_mem hi);have hr:=hR i hi;rw[h5,g5];simp only[zbp];generalize W[i]=x at*;have hy3:=g3;generalize pr[i]'(by omega)=y at*
  obtain⟨caps,i1,i2,hcl,e1⟩:∃caps,zi caps= []∧z9 caps=false∧zct caps (vg p x)∧(zu T).call 79 [z5 p,.sl (!x.isEmpty) 1 (x.map intV)] [] 0 []=some (.fn 147 caps,[],0,[]):=
   ⟨zcj p x,(zci p x).1,(zci p x).2,call125 p ho x,zip p ho (!x.isEmpty) 1 x x1 x2 (fun _=>rfl)⟩
  have hul:=zo6 ho x;have e2:=yoe caps i1 i2 (vg p x) (by omega) hcl;have e3:=yn8 y (!((vg p x).map ptV).isEmpty) true pr i hy3 (vg p x) (by omega);simp only[z5]at e1;cases h6:zax y (vg p x)
  ·rw[h6]at e3
   simp only[cond_false];unfold zea;rw[zx];rcases hz with rfl|rfl
   ·simp -implicitDefEqProofs only[go_sem,simprocAttr,z5,h1,h2,hlen,hr,h4,e1,i1,i2,e2,e3]
   ·simp -implicitDefEqProofs only[go_sem,simprocAttr,z5,h1,h2,hlen,hr,h4,e1,i1,i2,e2,e3]
  ·rw[h6]at e3
   simp only[cond_true];rw[←ih 3 (.inr rfl)]
   conv=>lhs;unfold zea;rw[zx]
   unfold zea;rcases hz with rfl|rfl
   ·simp -implicitDefEqProofs only[go_sem,simprocAttr,z5,h1,h2,hlen,hr,h4,e1,i1,i2,e2,e3]
   ·simp -implicitDefEqProofs only[go_sem,simprocAttr,z5,h1,h2,hlen,hr,h4,e1,i1,i2,e2,e3]
def zd9(p:Pk)(W:List (List Int))(R:List V)(pr:List (Int×Int))(i z:Nat):Option Out:=
 (zu T).loop false [.code (.loop zd4),.inBlock 0,.code (.seq zen .ret)]
  ⟨26,67,0,[(3,.ptr 0 0 0),(5,.ptr 1 0 0),(51,.sub 2 0 W.length),(52,.int .i64 W.length),(53,.int .i64 i)],[.cells true true 44 [z5 p],.cells true true 22 [.sl true 2 (pr.map ptV)],.cells false true 35 R],z,[]⟩
theorem yv1(p:Pk)(ho:Ok p)(W:List (List Int))(hW:W.length<1000)(hel:∀x∈W,x.length<1000000∧k5 p x)(R:List V)(hR:∀i (h:i<W.length),R[i]? =some (qe W[i]))(pr:List (Int×Int))(hp:pr.length=W.length):∀i,i≤W.length→∀z,z=1∨z=3→zd9 p W R pr i z=some (.ret (.int .i64 (zbp p (W.drop i) (pr.drop i))),[],0,[]):=by
 refine xq W.length ?_ fun i hi ih=> ?_
 ·intro z hz
  unfold zd9;have h1:=z8 W.length;rw[zx,List.drop_of_length_le (Nat.le_refl _),List.drop_of_length_le (by omega)];rcases hz with rfl|rfl
  ·simp -implicitDefEqProofs only[go_sem,simprocAttr,z5,h1]
   rfl
  ·simp -implicitDefEqProofs only[go_sem,simprocAttr,z5,h1]
   rfl
 ·intro z hz
  obtain⟨h1,h2,h3,h4,h5⟩:=zl hi (by omega);obtain⟨g1,g2,g3,g4,g5⟩:=zl (l:=pr) (i:=i) (by omega) (by omega);obtain⟨x1,x2⟩:=hel _ (List.getElem_mem hi);have hr:=hR i hi;rw[h5,g5];simp only[zbp];generalize W[i]=x at*;have hy3:=g3;generalize pr[i]'(by omega)=y at*
  obtain⟨caps,i1,i2,hcl,e1⟩:∃caps,zi caps= []∧z9 caps=false∧zct caps (vg p x)∧(zu T).call 79 [z5 p,.sl (!x.isEmpty) 1 (x.map intV)] [] 0 []=some (.fn 147 caps,[],0,[]):=
   ⟨zcj p x,(zci p x).1,(zci p x).2,call125 p ho x,zip p ho (!x.isEmpty) 1 x x1 x2 (fun _=>rfl)⟩
  have hul:=zo6 ho x;have e2:=yoe caps i1 i2 (vg p x) (by omega) hcl;have e3:=yn8 y (!((vg p x).map ptV).isEmpty) true pr i hy3 (vg p x) (by omega);simp only[z5]at e1;cases h6:zax y (vg p x)
  ·rw[h6]at e3
   simp only[cond_false];unfold zd9;rw[zx];rcases hz with rfl|rfl
   ·simp -implicitDefEqProofs only[go_sem,simprocAttr,z5,h1,h2,hr,h4,e1,i1,i2,e2,e3]
   ·simp -implicitDefEqProofs only[go_sem,simprocAttr,z5,h1,h2,hr,h4,e1,i1,i2,e2,e3]
  ·rw[h6]at e3
   simp only[cond_true];rw[←ih 3 (.inr rfl)]
   conv=>lhs;unfold zd9;rw[zx]
   unfold zd9;rcases hz with rfl|rfl
   ·simp -implicitDefEqProofs only[go_sem,simprocAttr,z5,h1,h2,hr,h4,e1,i1,i2,e2,e3]
   ·simp -implicitDefEqProofs only[go_sem,simprocAttr,z5,h1,h2,hr,h4,e1,i1,i2,e2,e3]
abbrev uy(p:Pk)(pr:List (Int×Int)):List Int:=pr.map fun x=>knP p.v.length (xr p) x
def zij(p:Pk)(n:Int)(pr:List (Int×Int)):Int:=
 if wb n 0 p.c.length=0 then
  (if xj [cond (((fwr n (setsN p.c.length)).length:Int) !=pr.length) 2 0,xj (uy p pr)]=0 then zbp p (fwr n (setsN p.c.length)) pr
   else xj [cond (((fwr n (setsN p.c.length)).length:Int) !=pr.length) 2 0,xj (uy p pr)])
 else wb n 0 p.c.length
theorem c46(p:Pk)(hf:p.fit)(h0:vi p=0)(hs:Sok p)(hne:setsN p.c.length≠ [])(hpw:(setsN p.c.length).Pairwise (fun a b=>a.length≤b.length))(n:Int)(pr:List (Int×Int))(hpr:pr.length<1000):
  (zu T).call 26 [z5 p,.int .i64 n,.sl true 2 (pr.map ptV)] [] 0 []=some (.int .i64 (zij p n pr),[],0,[]):=by
 rw[ym2];have ho:=zg5 h0;have e1:=c23 p hf;rw[h0]at e1;have e2:=zio n 0 p.c.length;unfold zij;simp only[z5]at e1;cases hr:(wb n 0 p.c.length !=0)
 ·have hr0:wb n 0 p.c.length=0:=by simpa using hr
  rw[if_pos hr0];have e3:=hs.c136;have e4:=yob p.c.length hs.len hne;obtain⟨k,k1,k2,k3,k4⟩:=zpc n (setsN p.c.length) hpw;have hlen:=hs.len;have hc:CutN n (setsN p.c.length) k:=⟨k1,k3,k4,by omega,by cases hq:setsN p.c.length with|nil=>exact absurd hq hne|cons a r=>simp⟩;have e5:=yoc n (setsN p.c.length) k hc;have e6:=xhs p ho true pr (by omega);have t1:List.map intV (List.map (fun x=>knP p.v.length (xr p) x) pr)=List.map (fun n=>V.int .i64 n) (uy p pr):=rfl;rw[t1]at e6;have e7:=fun b=>za1 b (uy p pr) (by simp;omega);rw[k2];have hel:∀x∈(setsN p.c.length).take k,x.length<1000000∧k5 p x:=fun x hx=>hs.el x (List.mem_of_mem_take hx);have hWl:((setsN p.c.length).take k).length=k:=by rw[List.length_take];omega
  generalize setsN p.c.length=l at*;have e8:=zil true (cond ((k:Int) !=pr.length) 2 0) (xj (uy p pr));rw[hWl];simp only[z5]at e6;by_cases hE:k=l.length
  ·rw[if_pos hE]at e5
   have e9:∀(kk:V→Prog) (S:xb) (rd wr fr:Nat) (sk:Bool) (K:V→zj→Nat→xb→FP→Option Out) (r0 r2:Row),(callP (zu T) T 54 [.ref 3,.fn 82 [.ptr 1 0 0]] kk).go none [r0,.cells true true 3 [.int .i64 n],r2,.cells false true 35 (l.map qe)] 0 S ⟨rd,wr,fr,sk⟩ K=
     (kk (.ref 3)).go none [r0,.cells true true 3 [.int .i64 n],r2,.cells false true 35 (l.map qe)] 2 S ⟨rd|||bit 3|||bit 1|||bit 3|||bit 1,wr|||bit 3|||bit 1|||bit 3|||bit 1,fr|||bit 1,sk⟩ K:=by
    intro kk S rd wr fr sk K r0 r2;refine(zhw (x:=3) (y:=1) zfd.1 rfl kk (fun k'=>zgq (by omega) rfl rfl 9996 k') rfl rfl rfl rfl rfl rfl e5 rfl).trans ?_;simp -implicitDefEqProofs only[go_sem,simprocAttr];rfl
   have htk:l.take k=l:=by rw[hE,List.take_length]
   cases hz:(xj [cond ((k:Int) !=pr.length) 2 0,xj (uy p pr)] !=0)
   ·have hz0:xj [cond ((k:Int) !=pr.length) 2 0,xj (uy p pr)]=0:=by simpa using hz
    rw[if_pos hz0,htk]
    have hpl:pr.length=l.length:=by
     have:=(fnz2 hz0).1;cases hq:((k:Int) !=pr.length)
     ·simp at hq;omega
     ·rw[hq]at this;cases this
    have hloop:=yv2 p ho l (by omega) (by rw[htk]at hel;exact hel) (l.map qe) (fun i h=>by rw[List.getElem?_map,List.getElem?_eq_getElem h];rfl) (by simp) pr hpl 0 (by omega) 1 (.inl rfl);rw[List.drop_zero,List.drop_zero]at hloop;unfold zea at hloop;simp only[show((0:Nat):Int)=0 from rfl,z5]at hloop;rw[←hE]at hloop;have hlE:(l.length:Int)=(k:Int):=by rw[hE]
    simp -implicitDefEqProofs only[go_sem,simprocAttr,z5,e1,e2,hr,e3,e4,e9,hlE,e6,e7,jz,e8,hz,hloop]
   ·have hz0:¬xj [cond ((k:Int) !=pr.length) 2 0,xj (uy p pr)]=0:=by simpa using hz
    rw[if_neg hz0];have hlE:(l.length:Int)=(k:Int):=by rw[hE]
    simp -implicitDefEqProofs only[go_sem,simprocAttr,z5,e1,e2,hr,e3,e4,e9,hlE,e6,e7,jz,e8,hz]
  ·rw[if_neg hE]at e5
   have e9:∀(kk:V→Prog) (S:xb) (rd wr fr:Nat) (sk:Bool) (K:V→zj→Nat→xb→FP→Option Out) (r0 r2:Row),(callP (zu T) T 54 [.ref 3,.fn 82 [.ptr 1 0 0]] kk).go none [r0,.cells true true 3 [.int .i64 n],r2,.cells false true 35 (l.map qe)] 0 S ⟨rd,wr,fr,sk⟩ K=
     (kk (.sub 3 0 k)).go none [r0,.cells true true 3 [.int .i64 n],r2,.cells false true 35 (clr l k)] 2 S ⟨rd|||bit 3|||bit 1|||bit 3|||bit 1,wr|||bit 3|||bit 1|||bit 3|||bit 1,fr|||bit 1,sk⟩ K:=by
    intro kk S rd wr fr sk K r0 r2;refine(zhw (x:=3) (y:=1) zfd.1 rfl kk (fun k'=>zgq (by omega) rfl rfl 9996 k') rfl rfl rfl rfl rfl rfl e5 rfl).trans ?_;simp -implicitDefEqProofs only[go_sem,simprocAttr];rfl
   have hRR:∀i (h:i<(l.take k).length),(clr l k)[i]? =some (qe (l.take k)[i]):=by
    intro i h;rw[hWl]at h;have hil:i<l.length:=by omega
    rw[List.getElem?_append_left (by simp;omega),List.getElem?_take_of_lt h,List.getElem?_map,List.getElem?_eq_getElem hil,List.getElem_take];rfl
   generalize clr l k=R at*;cases hz:(xj [cond ((k:Int) !=pr.length) 2 0,xj (uy p pr)] !=0)
   ·have hz0:xj [cond ((k:Int) !=pr.length) 2 0,xj (uy p pr)]=0:=by simpa using hz
    rw[if_pos hz0]
    have hpl:pr.length=(l.take k).length:=by
     have:=(fnz2 hz0).1;rw[hWl];cases hq:((k:Int) !=pr.length)
     ·simp at hq;omega
     ·rw[hq]at this;cases this
    have hloop:=yv1 p ho (l.take k) (by omega) hel R hRR pr hpl 0 (by omega) 1 (.inl rfl);rw[List.drop_zero,List.drop_zero]at hloop;unfold zd9 at hloop;simp only[show((0:Nat):Int)=0 from rfl,z5,hWl]at hloop;simp -implicitDefEqProofs only[go_sem,simprocAttr,z5,e1,e2,hr,e3,e4,e9,e6,e7,jz,e8,hz,hloop]
   ·have hz0:¬xj [cond ((k:Int) !=pr.length) 2 0,xj (uy p pr)]=0:=by simpa using hz
    rw[if_neg hz0];simp -implicitDefEqProofs only[go_sem,simprocAttr,z5,e1,e2,hr,e3,e4,e9,e6,e7,jz,e8,hz]
 ·have hr0:¬wb n 0 p.c.length=0:=by simpa using hr
  rw[if_neg hr0];simp -implicitDefEqProofs only[go_sem,simprocAttr,z5,e1,e2,hr]
end Go.Den.FaT
namespace Go.Den.FaT
open Go Go.Proofs Go.Den
structure Gq where
 m:Nat
 f:Nat→Int
 g:Nat→Nat→Int
 tr:Nat→Bool
 w:Int
structure Gq.ok (x:Gq):Prop where
 m1:1≤x.m
 m3:x.m≤3
 f:∀j,0≤x.f j∧x.f j≤160000
 g:∀i j,0≤x.g i j∧x.g i j≤x.f j
 w:0≤x.w∧x.w≤3
namespace Gq
variable (x:Gq)
def lo(i j:Nat):Int:=x.f j- x.g i j
def rs(c j:Nat):Int:=if c %2=1∧x.tr (c/2)=true then x.lo (c/2) j else 0
def cz(i:Nat):Cz:=⟨[99,UInt8.ofNat (48+i)],(2*i+1:Nat),true,(List.range x.m).map fun j=>(max 0 (x.lo i j- x.w),min 1000000 (x.lo i j+x.w))⟩
def row(c:Nat):Bool×List Int:=(true,(List.range x.m).map fun j=>x.f j- x.rs c j)
def pk:Pk:=⟨true,(List.range 7).map x.row,0,true,(List.range 3).map x.cz⟩
end Gq
variable {x:Gq} (hx:x.ok)
include hx
theorem zbh(i j:Nat):0≤x.lo i j∧x.lo i j≤x.f j∧x.lo i j≤160000:=by
 have:=hx.f j;have:=hx.g i j;unfold Gq.lo;omega
theorem zku(c j:Nat):0≤x.rs c j∧x.rs c j≤x.f j:=by
 have h1:=zbh hx (c/2) j;have:=hx.f j;unfold Gq.rs;split<;>omega
omit hx in
theorem zbw:xr x.pk=x.m:=by simp[xr,Gq.pk,Gq.row,List.range_succ]
omit hx in
theorem xfl(j:Nat)(h:j<x.m):col x.pk j=(List.range 7).map fun k=>x.f j- x.rs k j:=by
 unfold col Gq.pk;simp only[List.map_map];apply List.map_congr_left;intro k _;simp[Gq.row,List.getD_eq_getElem?_getD,h]
theorem yvd(j:Nat)(h:j<x.m):med (col x.pk j)=x.f j:=by
 rw[xfl j h];generalize hl:(List.range 7).map (fun k=>x.f j- x.rs k j)=l;have h7:l.length=7:=by rw[←hl];simp
 have hp:=zpa l;have hs:=yq6 l;have h37:3<(y7 l).length:=by rw[hp.length_eq];omega
 have hle:∀y∈y7 l,y≤x.f j:=by
  intro y hy;have hy:=hp.subset hy;rw[←hl]at hy;obtain⟨k,_,rfl⟩:=List.mem_map.1 hy;have:=zku hx k j;omega
 have h1:=ynk hle
 have h2:qi (y7 l) (x.f j)≤3:=by
  have e:qi (y7 l) (x.f j)=qi l (x.f j):=hp.countP_eq _;rw[e,←hl];have z:∀k,k %2=0→x.rs k j=0:=fun k hk=>by unfold Gq.rs;rw[if_neg (by omega)]
  simp only[qi,List.range_succ,List.range_zero,List.nil_append,List.map_append,List.map_cons,List.map_nil,List.cons_append,List.countP_cons,List.countP_nil,z 0 (by omega),z 2 (by omega),z 4 (by omega),z 6 (by omega)];have b0:∀b:Bool,(if b=true then 1 else 0:Nat)≤1:=by decide
  have q:(decide (x.f j- 0<x.f j))=false:=by simp
  simp only[q];have:=b0 (decide (x.f j- x.rs 1 j<x.f j));have:=b0 (decide (x.f j- x.rs 3 j<x.f j));have:=b0 (decide (x.f j- x.rs 5 j<x.f j));simp only[Bool.false_eq_true,if_false];omega
 have h3:=(yve hs h37 (x.f j)).1 ⟨h2,by rw[h1,hp.length_eq];omega⟩;unfold med;rw[h7,List.getD_eq_getElem?_getD,show(7- 1)/2=3 from rfl,List.getElem?_eq_getElem h37,h3];rfl
theorem yvb:qp x.pk=(List.range x.m).map x.f:=by
 unfold qp;rw[zbw];apply List.map_congr_left;intro j hj;exact yvd hx j (by simpa using hj)
omit hx in
theorem jl{a:Int}(h: -1000000≤a∧a≤1000000):IntKind.i64.wrap a=a:=wrap64 (by omega) (by omega)
theorem yrz(k:Nat):k9 (qp x.pk) (x.row k).2=(List.range x.m).map fun j=>x.rs k j:=by
 rw[yvb hx];unfold k9 Gq.row;simp only[List.zipWith_map_left,List.zipWith_map_right,List.zipWith_self];apply List.map_congr_left;intro j _;have:=zku hx k j;have:=hx.f j;rw[show x.f j- (x.f j- x.rs k j)=x.rs k j by omega];exact jl (by omega)
theorem zkx:(jq x.pk).map (·.2)=(List.range 7).map fun k=>(List.range x.m).map fun j=>x.rs k j:=by
 unfold jq;simp only[Gq.pk,List.map_map];apply List.map_congr_left;intro k _;exact yrz hx k
omit hx in
theorem zpr{nz:Int}{i:Nat}:∀(r:List Int) (k:Nat) (l:List (Int×Int)),r.length=l.length→(rowP nz i k r l= []↔∀a (h:a<r.length) (h':a<l.length),ka nz r[a] l[a]=false):=by
 intro r
 induction r with
 |nil=>intro k l h;cases l with
  |nil=>simp[rowP]
  |cons _ _=>simp at h
 |cons n r ih=>
  intro k l h;cases l with
  |nil=>simp at h
  |cons y l=>
   have h:r.length=l.length:=by simpa using h
   simp only[rowP];cases hb:ka nz n y
   ·simp only[cond_false]
    rw[ih (k+1) l h];constructor
    ·intro H a h1 h2
     cases a with
     |zero=>exact hb
     |succ a=>exact H a (by simpa using h1) (by simpa using h2)
    ·intro H a h1 h2
     exact H (a+1) (by simpa using h1) (by simpa using h2)
   ·simp only[cond_true]
    constructor
    ·intro H;cases H
    ·intro H;have:=H 0 (by simp) (by simp);simp[hb]at this
omit hx in
theorem xix{nz:Int}:∀(R:List (List Int)) (i:Nat) (L:List (List (Int×Int))),R.length=L.length→(allP nz i R L= []↔∀a (h:a<R.length) (h':a<L.length),rowP nz (i+a) 0 R[a] L[a]= []):=by
 intro R
 induction R with
 |nil=>intro i l h;cases l with
  |nil=>simp[allP]
  |cons _ _=>simp at h
 |cons n r ih=>
  intro i l h;cases l with
  |nil=>simp at h
  |cons y l=>
   have h:r.length=l.length:=by simpa using h
   simp only[allP,List.append_eq_nil_iff];rw[ih (i+1) l h];constructor
   ·intro⟨H0,H⟩ a h1 h2
    cases a with
    |zero=>exact H0
    |succ a=>have:=H a (by simpa using h1) (by simpa using h2);rw[show i+(a+1)=i+1+a by omega];exact this
   ·intro H
    refine⟨H 0 (by simp) (by simp),fun a h1 h2=> ?_⟩;have:=H (a+1) (by simpa using h1) (by simpa using h2);rw[show i+(a+1)=i+1+a by omega]at this;exact this
theorem yqf(st:List Int):vg x.pk st= []↔∀i j,i<7→j<x.m→ka 0 (x.rs i j) (lsA x.pk st i j)=false:=by
 unfold vg;rw[zkx hx];have hv:x.pk.v.length=7:=by simp[Gq.pk]
 rw[xix _ _ _ (by simp[ya,hv])];constructor
 ·intro H i j hi hj
  have h1:=H i (by simpa using hi) (by simpa[ya,hv]using hi);rw[zpr _ _ _ (by simp[ya,ux,zbw])]at h1;have h2:=h1 j (by simpa using hj) (by simp[ya,ux,zbw];exact hj);simp[ya,ux]at h2;exact h2
 ·intro H a h1 h2
  rw[zpr _ _ _ (by simp[ya,ux,zbw])];intro j h3 h4;have h5:=H a j (by simpa using h1) (by simpa using h3);simp[ya,ux];exact h5
omit hx in
theorem xgj{i:Int}(h:0≤i∧i<3):kg x.pk i=x.cz i.toNat:=by
 unfold kg Gq.pk;have:i.toNat<3:=by omega
 simp[this]
omit hx in
theorem yvw(i j:Nat):∀(st:List Int),st.Nodup→(∀k∈st,0≤k)→∀y,lossF i j (st.map fun k=>cPr (x.cz k.toNat)) y=if i %2=1∧((i/2:Nat):Int)∈st then qd y ((x.cz (i/2)).l.getD j (0,0))else y:=by
 intro st
 induction st with
 |nil=>intro _ _ y;simp[lossF]
 |cons k st ih=>
  intro hn hp y;rw[List.nodup_cons]at hn;have hk:=hp k (List.mem_cons_self ..);simp only[List.map_cons,yvx];rw[ih hn.2 fun z hz=>hp z (List.mem_cons_of_mem _ hz)]
  have ec:(cPr (x.cz k.toNat)).1=2*k.toNat+1:=by
   show(((2*k.toNat+1:Nat):Int)).toNat=_;exact Int.toNat_natCast _
  by_cases h:2*k.toNat+1=i
  ·have hki:k=((i/2:Nat):Int):=by omega
   rw[ec,if_pos h,if_neg (by rw[←hki];exact fun hc=>hn.1 hc.2),if_pos ⟨by omega,by rw[hki];exact List.mem_cons_self ..⟩];rw[show k.toNat=i/2 by omega];rfl
  ·rw[ec,if_neg h]
   by_cases h2:i %2=1
   ·have hki:¬((i/2:Nat):Int)=k:=by omega
    have e:(((i/2:Nat):Int)∈k::st)↔((i/2:Nat):Int)∈st:=by
     rw[List.mem_cons];exact⟨fun h=>h.resolve_left hki,.inr⟩
    simp only[e]
   ·rw[if_neg (fun hc=>h2 hc.1),if_neg (fun hc=>h2 hc.1)]
theorem zhh(st:List Int)(hn:st.Nodup)(hr:∀k∈st,0≤k∧k<(3:Int))(i j:Nat)(hj:j<x.m):
  lsA x.pk st i j=if i %2=1∧((i/2:Nat):Int)∈st then(max 0 (x.lo (i/2) j- x.w),x.lo (i/2) j+x.w)else(0,0):=by
 unfold lsA csq;rw[List.map_congr_left (g:=fun k=>cPr (x.cz k.toNat)) fun k hk=>by rw[xgj (hr k hk)],yvw i j st hn fun k hk=>(hr k hk).1];split
 ·simp only[Gq.cz,List.getD_eq_getElem?_getD,List.getElem?_map,List.getElem?_range hj,Option.map_some,Option.getD_some]
  have h1:=zbh hx (i/2) j;have h4:=hx.w;simp only[qd];rw[jl (by omega),jl (by omega)];rw[Prod.mk.injEq];omega
 ·rfl
def yn(x:Gq)(k:Nat):Bool:=x.tr k&&(List.range x.m).any fun j=>decide (0<x.lo k j)
def nd(x:Gq):List Int:=((List.range 3).filter (yn x)).map Int.ofNat
omit hx in
theorem zg9(k:Nat):yn x k=true↔x.tr k=true∧∃j,j<x.m∧0<x.lo k j:=by simp[yn]
omit hx in
theorem ylf(k:Nat):(k:Int)∈nd x↔k<3∧yn x k=true:=by
 unfold nd;constructor
 ·intro h
  obtain⟨a,ha,e⟩:=List.mem_map.1 h;have:a=k:=by have:(a:Int)=k:=e;omega
  subst this;simpa using ha
 ·intro h
  exact List.mem_map.2 ⟨k,by simpa using h,rfl⟩
def zg6(st:List Int):Prop:=st.Nodup∧∀k∈st,0≤k∧k<(3:Int)
theorem ymr(st:List Int)(h:zg6 st):vg x.pk st= []↔∀i:Nat,i<3→if(i:Int)∈st then(x.tr i=true∨∀j,j<x.m→x.lo i j≤x.w)else(x.tr i=true→∀j,j<x.m→x.lo i j=0):=by
 rw[yqf hx];constructor
 ·intro H i hi
  have e1:(2*i+1) %2=1:=by omega
  have e2:(2*i+1)/2=i:=by omega
  split
  ·rename_i hm
   cases ht:x.tr i
   ·refine .inr fun j hj=> ?_
    have hb:=H (2*i+1) j (by omega) hj;rw[zhh hx _ h.1 h.2 _ j hj,e2,if_pos ⟨e1,hm⟩]at hb;have hr:x.rs (2*i+1) j=0:=by unfold Gq.rs;rw[e2,if_neg (by rw[ht];simp)]
    rw[hr]at hb;have h1:=zbh hx i j;have h4:=hx.w;simp only[ka]at hb;rw[jl (by omega),jl (by omega)]at hb;simp at hb;omega
   ·exact .inl rfl
  ·rename_i hm
   intro ht j hj;have hb:=H (2*i+1) j (by omega) hj;rw[zhh hx _ h.1 h.2 _ j hj,e2,if_neg (fun hc=>hm hc.2)]at hb;have hr:x.rs (2*i+1) j=x.lo i j:=by unfold Gq.rs;rw[e2,if_pos ⟨e1,ht⟩]
   rw[hr]at hb;have h1:=zbh hx i j;simp only[ka]at hb;rw[jl (by omega),jl (by omega)]at hb;simp at hb;omega
 ·intro H c j hc hj
  rw[zhh hx _ h.1 h.2 _ j hj];have h1:=zbh hx (c/2) j;have h4:=hx.w;by_cases ho:c %2=1
  ·have hH:=H (c/2) (by omega)
   by_cases hm:((c/2:Nat):Int)∈st
   ·rw[if_pos hm]at hH
    rw[if_pos ⟨ho,hm⟩]
    have hr:0≤x.rs c j∧max 0 (x.lo (c/2) j- x.w)≤x.rs c j∧x.rs c j≤x.lo (c/2) j+x.w:=by
     unfold Gq.rs;split
     ·omega
     ·rename_i hn
      rcases hH with ht|hw
      ·exact absurd ⟨ho,ht⟩ hn
      ·have:=hw j hj;omega
    simp only[ka];rw[jl (by omega),jl (by omega)];simp;omega
   ·rw[if_neg hm]at hH
    rw[if_neg (fun hc=>hm hc.2)]
    have hr:x.rs c j=0:=by
     unfold Gq.rs;split
     ·rename_i hn;exact hH hn.2 j hj
     ·rfl
    rw[hr];simp only[ka];rw[jl (by omega),jl (by omega)];simp
  ·rw[if_neg (fun hc=>ho hc.1)]
   have hr:x.rs c j=0:=by unfold Gq.rs;rw[if_neg (fun hc=>ho hc.1)]
   rw[hr];simp only[ka];rw[jl (by omega),jl (by omega)];simp
theorem yu2(h:zg6 (nd x)):vg x.pk (nd x)= []:=by
 rw[ymr hx _ h];intro i hi;split
 ·rename_i hm
  exact .inl ((zg9 i).1 ((ylf i).1 hm).2).1
 ·rename_i hm
  intro ht j hj;have h1:=zbh hx i j;refine Classical.byContradiction fun hc=>hm ((ylf i).2 ⟨hi,(zg9 i).2 ⟨ht,j,hj,by omega⟩⟩)
theorem ymq(st:List Int)(h:zg6 st)(hu:vg x.pk st= []):∀k∈nd x,k∈st:=by
 rw[ymr hx _ h]at hu;intro k hk;obtain⟨i,hi,rfl⟩:=List.mem_map.1 hk;have hi:i<3∧yn x i=true:=by simpa using hi
 obtain⟨ht,j,hj,hl⟩:=(zg9 i).1 hi.2;have hu:=hu i hi.1;by_cases hm:(i:Int)∈st
 ·exact hm
 ·exfalso
  rw[if_neg hm]at hu;have:=hu ht j hj;omega
end Go.Den.FaT
namespace Go.Den.FaT
open Go Go.Proofs Go.Den
def zkj(a b:List Int):Bool:=a.all fun k=>b.any fun j=>j==k
def zib:List Int→Bool
 | []=>true
 |k::l=> !(l.any fun j=>j==k)&&zib l
def zhl:List (List Int)→Bool
 | []=>true
 |s::l=>(l.all fun t=>Nat.ble s.length t.length&& !(s==t))&&zhl l
def znz(n:Nat):Bool:=
 ((setsN n).all fun s=>zib s&&s.all fun k=>decide (0≤k)&&decide (k<(n:Int)))&&zhl (setsN n)&&
 ((setsN n).all fun a=>(setsN n).all fun b=> !(zkj a b)||(a==b)||Nat.blt a.length b.length)&&Nat.ble (setsN n).length 64&&((setsN n).all fun s=>Nat.ble s.length 6)
theorem zch:znz 3=true:=by kernel_rfl
theorem xen:∀l:List Int,zib l=true→l.Nodup:=by
 intro l
 induction l with
 |nil=>intro _;exact List.nodup_nil
 |cons k l ih=>
  intro h;simp only[zib,Bool.and_eq_true,Bool.not_eq_true']at h;refine List.nodup_cons.2 ⟨fun hk=> ?_,ih h.2⟩;have:(l.any fun j=>j==k)=true:=List.any_eq_true.2 ⟨k,hk,by simp⟩;rw[this]at h;exact absurd h.1 (by simp)
theorem yqt(a b:List Int):zkj a b=true↔∀k∈a,k∈b:=by
 unfold zkj;rw[List.all_eq_true];constructor
 ·intro h k hk
  obtain⟨j,hj,e⟩:=List.any_eq_true.1 (h k hk);have:j=k:=by simpa using e
  exact this▸hj
 ·intro h k hk
  exact List.any_eq_true.2 ⟨k,h k hk,by simp⟩
theorem yxh:∀l:List (List Int),zhl l=true→l.Pairwise fun a b=>a.length≤b.length∧a≠b:=by
 intro l
 induction l with
 |nil=>intro _;exact List.Pairwise.nil
 |cons s l ih=>
  intro h;simp only[zhl,Bool.and_eq_true,List.all_eq_true]at h;exact List.Pairwise.cons (fun t ht=>⟨Nat.le_of_ble_eq_true (h.1 t ht).1,by simpa using (h.1 t ht).2⟩) (ih h.2)
structure SetsOk (n:Nat):Prop where
 nod:∀s∈setsN n,s.Nodup
 el:∀s∈setsN n,∀k∈s,0≤k∧k<(n:Int)
 sorted:(setsN n).Pairwise fun a b=>a.length≤b.length∧a≠b
 sub:∀a∈setsN n,∀b∈setsN n,(∀k∈a,k∈b)→a=b∨a.length<b.length
 len:(setsN n).length≤64
 l6:∀s∈setsN n,s.length≤6
theorem zbx{n:Nat}(h:znz n=true):SetsOk n:=by
 unfold znz at h;simp only[Bool.and_eq_true]at h;obtain⟨⟨⟨⟨h1,h2⟩,h3⟩,h4⟩,h5⟩:=h;rw[List.all_eq_true]at h1 h3 h5;refine⟨fun s hs=> ?_,fun s hs k hk=> ?_,yxh _ h2,fun a ha b hb hab=> ?_,Nat.le_of_ble_eq_true h4,fun s hs=>Nat.le_of_ble_eq_true (h5 s hs)⟩
 ·have:=h1 s hs;rw[Bool.and_eq_true]at this;exact xen s this.1
 ·have:=h1 s hs;rw[Bool.and_eq_true]at this
  have:=List.all_eq_true.1 this.2 k hk;simpa using this
 ·have:=List.all_eq_true.1 (h3 a ha) b hb
  rw[(yqt a b).2 hab]at this;rcases(by simpa using this:a=b∨Nat.blt a.length b.length=true)with h|h
  ·exact .inl h
  ·exact .inr (Nat.le_of_ble_eq_true h)
def zmt(n:Nat):Bool:= [false,true].all fun a=> [false,true].all fun b=> [false,true].all fun c=>
 (setsN n).any fun s=>s==((bif a then [0]else [])++((bif b then [1]else [])++(bif c then [2]else [])):List Int)
theorem yli:zmt 3=true:=by kernel_rfl
variable {x:Gq} (hx:x.ok)
include hx
theorem zmo:nd x=((bif yn x 0 then [0]else [])++((bif yn x 1 then [1]else [])++(bif yn x 2 then [2]else [])):List Int):=by
 unfold nd;cases h0:yn x 0<;>cases h1:yn x 1<;>cases h2:yn x 2<;>simp[List.range_succ,List.filter_append,h0,h1,h2]<;>rfl
theorem zmn:nd x∈setsN (3):=by
 rw[zmo hx];have h:=yli;unfold zmt at h;rw[List.all_eq_true]at h;have b2:∀b:Bool,b∈ [false,true]:=by decide
 have h:=List.all_eq_true.1 (List.all_eq_true.1 (h (yn x 0) (b2 _)) (yn x 1) (b2 _)) (yn x 2) (b2 _);obtain⟨s,hs,e⟩:=List.any_eq_true.1 h;have e:=eq_of_beq e;rw[e]at hs;exact hs
omit hx in
theorem pk_c:x.pk.c.length=3:=by simp[Gq.pk]
theorem zmk{s:List Int}(h:s∈setsN (3)):zg6 s:=by
 have k:=zbx (zch);exact⟨k.nod s h,k.el s h⟩
omit hx in
theorem xap(d:List Int)(P:List Int→Bool)(hP:P d=true):∀L:List (List Int),L.Pairwise (fun a b=>a.length≤b.length∧a≠b)→d∈L→(∀s∈L,P s=true→d=s∨d.length<s.length)→
  ∃r,L.filter P=d::r∧∀s∈r,s∈L∧P s=true∧d.length<s.length:=by
 intro L
 induction L with
 |nil=>intro _ h _;cases h
 |cons s l ih=>
  intro hp hm hs;rw[List.pairwise_cons]at hp;by_cases hd:d=s
  ·subst hd
   refine⟨l.filter P,by simp[hP],fun t ht=> ?_⟩;rw[List.mem_filter]at ht;refine⟨List.mem_cons_of_mem _ ht.1,ht.2,?_⟩;rcases hs t (List.mem_cons_of_mem _ ht.1) ht.2 with h|h
   ·exact absurd h (hp.1 t ht.1).2
   ·exact h
  ·have hl:d∈l:=by
    rcases List.mem_cons.1 hm with h|h
    ·exact absurd h hd
    ·exact h
   have hPs:P s=false:=by
    cases h:P s
    ·rfl
    ·rcases hs s (List.mem_cons_self ..) h with h1|h1
     ·exact absurd h1 hd
     ·have:=(hp.1 d hl).1;omega
   obtain⟨r,h1,h2⟩:=ih hp.2 hl fun t ht=>hs t (List.mem_cons_of_mem _ ht);exact⟨r,by simp[hPs,h1],fun t ht=>⟨List.mem_cons_of_mem _ (h2 t ht).1,(h2 t ht).2⟩⟩
theorem znk:∃r,exA x.pk=nd x::r∧(∀s∈r,(nd x).length<s.length∧∀k∈nd x,k∈s)∧(exA x.pk).length≤64:=by
 have k:=zbx (zch);have hm:=zmn hx
 have hle:(exA x.pk).length≤64:=by
  unfold exA expl;rw[pk_c];exact Nat.le_trans (List.length_filter_le _ _) k.len
 have hsub:∀s∈setsN (3),(vg x.pk s).isEmpty=true→∀k∈nd x,k∈s:=fun s hs h=>ymq hx s (zmk hx hs) (List.isEmpty_iff.1 h)
 obtain⟨r,h1,h2⟩:=xap (nd x) (fun st=>(vg x.pk st).isEmpty) (List.isEmpty_iff.2 (yu2 hx (zmk hx hm))) _ k.sorted hm
  fun s hs h=>k.sub _ hm _ hs (hsub s hs h)
 refine⟨r,?_,fun s hs=>⟨(h2 s hs).2.2,hsub s (h2 s hs).1 (h2 s hs).2.1⟩,hle⟩;unfold exA expl;rw[pk_c];exact h1
theorem xe4:Cut (nd x) (exA x.pk) 1:=by
 obtain⟨r,h1,h2,h3⟩:=znk hx;refine⟨by rw[h1];rfl,by rw[h1];simp,fun i h hi=> ?_,fun i h hi=> ?_,by omega⟩
 ·have:i=0:=by omega
  subst this;simp[h1]
 ·simp only[h1]
  obtain⟨m,rfl⟩:∃m,i=m+1:=⟨i- 1,by omega⟩;have hm:m<r.length:=by rw[h1]at h;simpa using h
  have:=(h2 r[m] (List.getElem_mem hm)).1;simpa using this
end Go.Den.FaT
namespace Go.Den.FaT
open Go Go.Proofs Go.Den
theorem zbz{n a b:Int}(h:a≤n∧n≤b):wb n a b=0:=by rw[zeh,if_neg (by omega)]
theorem yut:∀k:_root_.Fin 7,zae [99,UInt8.ofNat (48+k)]=true:=by decide
theorem yuu:∀k j:_root_.Fin 7,UInt8.ofNat (48+k.val)=UInt8.ofNat (48+j.val)→k=j:=by decide
theorem xe7(l:List Cz):∀(r:List Cz) (i:Nat) (y:Int),y∈vw l i r→∃k,∃h:k<r.length,y=uq l (i+k) r[k]:=by
 intro r
 induction r with
 |nil=>intro i y h;cases h
 |cons m r ih=>
  intro i y h;rcases List.mem_cons.1 h with rfl|h
  ·exact⟨0,by simp,rfl⟩
  ·obtain⟨k,hk,e⟩:=ih (i+1) y h
   exact⟨k+1,by simpa using hk,by rw[e];simp only[List.getElem_cons_succ];rw[show i+1+k=i+(k+1) by omega]⟩
variable {x:Gq} (hx:x.ok)
include hx
theorem zdt:x.pk.fit:=by
 have:=hx.m3;refine⟨by simp[Gq.pk],fun r hr=> ?_,by simp[Gq.pk],fun c hc=> ?_⟩
 ·obtain⟨k,_,rfl⟩:=List.mem_map.1 hr
  simp[Gq.row];omega
 ·obtain⟨k,_,rfl⟩:=List.mem_map.1 hc
  simp[Gq.cz];omega
omit hx in
theorem zki{n:Int}(h:0<n∧n≤8):yo n 8=0:=by
 unfold yo;have h1:(n==0)=false:=by simp;omega
 have h2:decide (8<n)=false:=by simp;omega
 rw[h1,h2];rfl
theorem xfz(k:Nat)(h:k<3):ckC (x.cz k)=0:=by
 have:=hx.m3;have:=hx.m1;unfold ckC;rw[xt];intro y hy;simp only[List.mem_cons,List.not_mem_nil,or_false]at hy;rcases hy with rfl|rfl|rfl
 ·exact zbz (by simp only[Gq.cz];omega)
 ·exact zki (by simp only[Gq.cz,List.length_map,List.length_range];omega)
 ·rw[xt]
  intro z hz;obtain⟨v,hv,rfl⟩:=List.mem_map.1 hz;simp only[Gq.cz]at hv;obtain⟨j,_,rfl⟩:=List.mem_map.1 hv;have h1:=zbh hx k j;have h4:=hx.w;unfold ye yf;rw[zbz (by omega),zbz (by omega),show decide (min 1000000 (x.lo k j+x.w)<max 0 (x.lo k j- x.w))=false by simp;omega];rfl
theorem zfm:vi x.pk=0:=by
 have hm3:=hx.m3;have hm1:=hx.m1;have hw:=hx.w;have hv:x.pk.v.length=7:=by simp[Gq.pk]
 have hs:(x.pk.v[0]?.getD (false,[])).2.length=x.m:=zbw;unfold vi;rw[if_pos (zki (by rw[hv];omega)),xt];intro y hy;simp only[List.mem_cons,List.not_mem_nil,or_false,hs]at hy;rcases hy with rfl|rfl|rfl|rfl
 ·rw[xt]
  intro z hz;obtain⟨r,hr,rfl⟩:=List.mem_map.1 hz;obtain⟨k,hk,rfl⟩:=List.mem_map.1 hr;have hl:(x.row k).2.length=x.m:=by simp[Gq.row]
  unfold ku;rw[xt];intro w hw;simp only[List.mem_cons,List.not_mem_nil,or_false,hl]at hw;rcases hw with rfl|rfl|rfl
  ·exact zki (by omega)
  ·simp
  ·rw[xt]
   intro u hu;obtain⟨q,hq,rfl⟩:=List.mem_map.1 hu;obtain⟨j,_,rfl⟩:=List.mem_map.1 hq;have:=zku hx k j;have:=hx.f j;exact zbz (by omega)
 ·exact zbz (by simp only[Gq.pk];omega)
 ·unfold jh
  have hc:x.pk.c=(List.range 3).map x.cz:=rfl;rw[hc,if_neg (by simp),xt];intro z hz;obtain⟨k,hk,rfl⟩:=xe7 _ _ _ _ hz;have hk':k<3:=by simpa using hk
  have hg:((List.range 3).map x.cz)[k]'hk=x.cz k:=by rw[List.getElem_map,List.getElem_range]
  rw[hg,Nat.zero_add];unfold uq;have h1:zae (x.cz k).n=true:=yut ⟨k,by omega⟩
  have h2:vq ((List.range 3).map x.cz) k (x.cz k)=false:=by
   unfold vq;rw[List.any_eq_false];intro a ha;rw[←List.map_take,List.take_range]at ha;obtain⟨j,hj,rfl⟩:=List.mem_map.1 ha;have hj:j<k:=by have:=List.mem_range.1 hj;omega
   intro e;have e:(x.cz j).n=(x.cz k).n:=by simpa using e
   simp only[Gq.cz,List.cons.injEq,true_and,and_true]at e;have:=yuu ⟨j,by omega⟩ ⟨k,by omega⟩ e;simp at this;omega
  rw[h1,h2,xfz hx k (by omega)];rfl
 ·rw[xt]
  intro z hz;obtain⟨c,hc,rfl⟩:=List.mem_map.1 hz;obtain⟨k,hk,rfl⟩:=List.mem_map.1 hc;have hk:k<3:=by simpa using hk
  have hl:(x.cz k).l.length=x.m:=by simp[Gq.cz]
  unfold kq;rw[hl,hv,show decide (((7:Nat):Int)≤(x.cz k).c)=false by simp[Gq.cz];omega];simp[xj]
theorem zgi:Sok x.pk:=yq9 (by rw[pk_c];decide)
theorem yxy:(zu T).call 12 [z5 x.pk] [] 0 []=some (.tup [.sl true 1 [qe (nd x)],.int .i64 0],[],0,[]):=by
 have h:=c36 x.pk (zdt hx) (zfm hx) (zgi hx) _ _ (xe4 hx);obtain⟨r,h1,_⟩:=znk hx;rw[h,h1];rfl
end Go.Den.FaT
namespace Go.Den.FaT
open Go Go.Proofs Go.Den
theorem yr3{nz:Int}{i:Nat}{y:Int×Int}:∀(r:List Int) (k:Nat) (l:List (Int×Int)),y∈rowP nz i k r l→y.1=i∧(k:Int)≤y.2∧y.2<k+r.length:=by
 intro r
 induction r with
 |nil=>intro k l h;simp[rowP]at h
 |cons n r ih=>
  intro k l h;cases l with
  |nil=>simp[rowP]at h
  |cons v l=>
   simp only[rowP]at h;have ih:=ih (k+1) l;cases hb:ka nz n v
   ·rw[hb,cond_false]at h
    have:=ih h;simp only[List.length_cons];omega
   ·rw[hb,cond_true]at h
    rcases List.mem_cons.1 h with rfl|h
    ·exact⟨rfl,Int.le_refl _,by show(k:Int)<_;simp only[List.length_cons];omega⟩
    ·have:=ih h
     simp only[List.length_cons];omega
theorem xiy{nz:Int}{w:Nat}{y:Int×Int}:∀(R:List (List Int)) (i:Nat) (L:List (List (Int×Int))),(∀r∈R,r.length≤w)→y∈allP nz i R L→(i:Int)≤y.1∧y.1<i+R.length∧0≤y.2∧y.2<w:=by
 intro R
 induction R with
 |nil=>intro i L _ h;simp[allP]at h
 |cons r R ih=>
  intro i L hw h;cases L with
  |nil=>simp[allP]at h
  |cons l L=>
   simp only[allP,List.mem_append]at h;rcases h with h|h
   ·have:=yr3 _ _ _ h
    have:=hw r (List.mem_cons_self ..);simp only[List.length_cons];omega
   ·have:=ih (i+1) L (fun r hr=>hw r (List.mem_cons_of_mem _ hr)) h
    simp only[List.length_cons];omega
def hdQ(p:Pk)(s:List Int):Int×Int:=((vg p s)[0]?).getD (0,0)
theorem ytc(p:Pk)(k:Nat):∀(L:List (List Int)),L.Pairwise (fun a b=>a.length≤b.length)→(∀s∈L,(s.length:Int)<k→vg p s≠ [])→pfL p k L=(fwr k L).map (hdQ p):=by
 intro L
 induction L with
 |nil=>intro _ _;rfl
 |cons s r ih=>
  intro hp hn;obtain⟨ha,hp2⟩:=List.pairwise_cons.1 hp;rw[show pfL p k (s::r)=bif decide ((k:Int)≤s.length)then []else(vg p s).take 1++pfL p k r from rfl,ymd];by_cases h:(s.length:Int)<k
  ·have h1:decide ((k:Int)≤s.length)=false:=by simp;omega
   rw[h1,decide_eq_true h,cond_false,cond_true,ih hp2 (fun t ht=>hn t (by simp[ht])),List.map_append];congr 1;have:=hn s (by simp) h;unfold hdQ;cases hc:vg p s with
   |nil=>exact absurd hc this
   |cons a t=>simp[hc]
  ·have h1:decide ((k:Int)≤s.length)=true:=by simp;omega
   have h2:fwr (k:Int) r= []:=by
    unfold fwr;rw[List.filter_eq_nil_iff];intro t ht;have:=ha t ht;simp;omega
   rw[h1,decide_eq_false h,cond_true,cond_false,h2];rfl
theorem xf0(p:Pk):∀W:List (List Int),(∀s∈W,vg p s≠ [])→zbp p W (W.map (hdQ p))=0:=by
 intro W
 induction W with
 |nil=>intro _;rfl
 |cons s W ih=>
  intro h;simp only[List.map_cons,zbp]
  have hh:zax (hdQ p s) (vg p s)=true:=by
   have:=h s (List.mem_cons_self ..);unfold hdQ zax;cases hc:vg p s with
   |nil=>exact absurd hc this
   |cons a t=>simp[zal]
  rw[hh,cond_true];exact ih fun t ht=>h t (List.mem_cons_of_mem _ ht)
variable {x:Gq} (hx:x.ok)
include hx
def prf(x:Gq):List (Int×Int):=(fwr (nd x).length (setsN (3))).map (hdQ x.pk)
theorem ymo:∀s∈setsN (3),(s.length:Int)<(nd x).length→vg x.pk s≠ []:=by
 intro s hs hl he;have k:=zbx (zch);have h:=ymq hx s (zmk hx hs) he;rcases k.sub _ (zmn hx) s hs h with h|h
 ·rw[h]at hl;omega
 ·omega
theorem srtd:(setsN (3)).Pairwise fun a b=>a.length≤b.length:=(zbx (zch)).sorted.imp fun h=>h.1
theorem ys9:(zu T).call 24 [z5 x.pk] [] 0 []=some (.tup [yr 2 ((prf x).map ptV),.int .i64 0],[],0,[]):=by
 obtain⟨r,h1,h2,_⟩:=znk hx;have h:=c45 x.pk (zdt hx) (zfm hx) (zgi hx) (by rw[h1];simp) (nd x) (by rw[h1];rfl);rw[pk_c,ytc _ _ _ (srtd hx) (ymo hx)]at h;exact h
theorem yta:(prf x).length≤64:=by
 unfold prf fwr;rw[List.length_map];exact Nat.le_trans (List.length_filter_le _ _) (zbx (zch)).len
theorem xfx:zij x.pk (nd x).length (prf x)=0:=by
 have k:=zbx (zch);have hn3:(nd x).length≤3:=by rw[zmo hx];cases yn x 0<;>cases yn x 1<;>cases yn x 2<;>decide
 unfold zij;rw[pk_c,if_pos (zbz (by omega))];have hl:(((fwr (nd x).length (setsN (3))).length:Int) !=(prf x).length)=false:=by unfold prf;simp
 have hw:∀s∈fwr (nd x).length (setsN (3)),vg x.pk s≠ []:=fun s hs=>by
  unfold fwr at hs;rw[List.mem_filter]at hs;exact ymo hx s hs.1 (by simpa using hs.2)
 have hk:xj (uy x.pk (prf x))=0:=by
  rw[xt];intro z hz;obtain⟨y,hy,rfl⟩:=List.mem_map.1 hz;obtain⟨s,hs,rfl⟩:=List.mem_map.1 hy
  have hm:hdQ x.pk s∈vg x.pk s:=by
   have:=hw s hs;unfold hdQ;cases hc:vg x.pk s with
   |nil=>exact absurd hc this
   |cons a t=>simp
  unfold vg at hm;rw[zkx hx]at hm;have:=xiy (w:=x.m) _ _ _ (by intro r hr;obtain⟨q,_,rfl⟩:=List.mem_map.1 hr;simp) hm;have hv:x.pk.v.length=7:=by simp[Gq.pk]
  rw[hv,zbw];unfold knP zkg;simp only[List.length_map,List.length_range]at this;obtain⟨g1,g2,g3,g4⟩:=this;generalize hdQ x.pk s=y at*;rw[decide_eq_false (by omega),decide_eq_false (by omega),decide_eq_false (by omega),decide_eq_false (by omega)];rfl
 rw[hl,hk,if_pos (show xj [bif false then 2 else 0,0]=0 from rfl)];exact xf0 _ _ hw
theorem xf2:(zu T).call 26 [z5 x.pk,.int .i64 (nd x).length,.sl true 2 ((prf x).map ptV)] [] 0 []=some (.int .i64 0,[],0,[]):=by
 have k:=zbx (zch);have hm:=zmn hx;have h:=c46 x.pk (zdt hx) (zfm hx) (zgi hx) (by rw[pk_c];intro e;rw[e]at hm;cases hm) (by rw[pk_c];exact srtd hx) (nd x).length (prf x) (by have:=yta hx;omega);rw[xfx hx]at h;exact h
end Go.Den.FaT
namespace Go.Den.FaT
open Go Go.Proofs Go.Den
theorem xhr(v:V):(zu T).call 84 [.sl false 2 [],.fn 83 [.pp 3 [v] 0 0]] [] 0 []=some (.sl false 0 [],[],0,[]):=by
 rw[ymy];simp -implicitDefEqProofs only[go_sem,simprocAttr];rw[zx];simp -implicitDefEqProofs only[go_sem,simprocAttr]
theorem xgm(p:Pk)(hf:p.fit)(h0:vi p=0)(hs:Sok p)(hne:setsN p.c.length≠ [])(hpw:(setsN p.c.length).Pairwise (fun a b=>a.length≤b.length)):
  (zu T).call 26 [z5 p,.int .i64 0,.sl false 2 []] [] 0 []=some (.int .i64 0,[],0,[]):=by
 rw[ym2];have ho:=zg5 h0;have e1:=c23 p hf;rw[h0]at e1;have e2:=zio 0 0 p.c.length;simp only[z5]at e1;have hr:(wb 0 0 p.c.length !=0)=false:=by rw[zbz (by omega)];rfl
 have e3:=hs.c136;have e4:=yob p.c.length hs.len hne;obtain⟨k,k1,k2,k3,k4⟩:=zpc 0 (setsN p.c.length) hpw;have hlen:=hs.len;have hl0:0<(setsN p.c.length).length:=by cases hq:setsN p.c.length with|nil=>exact absurd hq hne|cons a r=>simp
 have hk0:k=0:=by
  rcases Nat.eq_zero_or_pos k with h|h
  ·exact h
  ·have:=k3 0 hl0 h;omega
 subst hk0;have hc:CutN 0 (setsN p.c.length) 0:=⟨k1,k3,k4,by omega,hl0⟩;have e5:=yoc 0 (setsN p.c.length) 0 hc;generalize setsN p.c.length=l at*;have e8:=zil true 0 0;rw[if_neg (by omega)]at e5
 have e9:∀(kk:V→Prog) (S:xb) (rd wr fr:Nat) (sk:Bool) (K:V→zj→Nat→xb→FP→Option Out) (r0 r2:Row),(callP (zu T) T 54 [.ref 3,.fn 82 [.ptr 1 0 0]] kk).go none [r0,.cells true true 3 [.int .i64 0],r2,.cells false true 35 (l.map qe)] 0 S ⟨rd,wr,fr,sk⟩ K=
     (kk (.sub 3 0 0)).go none [r0,.cells true true 3 [.int .i64 0],r2,.cells false true 35 (clr l 0)] 2 S ⟨rd|||bit 3|||bit 1|||bit 3|||bit 1,wr|||bit 3|||bit 1|||bit 3|||bit 1,fr|||bit 1,sk⟩ K:=by
    intro kk S rd wr fr sk K r0 r2;refine(zhw (x:=3) (y:=1) zfd.1 rfl kk (fun k'=>zgq (by omega) rfl rfl 9996 k') rfl rfl rfl rfl rfl rfl e5 rfl).trans ?_;simp -implicitDefEqProofs only[go_sem,simprocAttr];rfl
 generalize clr l 0=R at*;have e7:=fun b=>za1 b [] (by simp);simp only[List.map_nil]at e7;have hz:xj [0,0]=0:=rfl
 have hloop:(zu T).loop false [.code (.loop zd4),.inBlock 0,.code (.seq zen .ret)]
  ⟨26,67,0,[(3,.ptr 0 0 0),(5,.ptr 1 0 0),(51,.sub 2 0 0),(52,.int .i64 0),(53,.int .i64 0)],[.cells true true 44 [z5 p],.cells true true 22 [.sl false 2 []],.cells false true 35 R],1,[]⟩=some (.ret (.int .i64 0),[],0,[]):=by
  rw[zx];simp -implicitDefEqProofs only[go_sem,simprocAttr,z5]
 simp only[z5]at hloop;simp -implicitDefEqProofs only[go_sem,simprocAttr,z5,e1,e2,hr,e3,e4,e9,xhr,e7,jz,e8,hz,hloop,yr,xj]
variable {x:Gq} (hx:x.ok)
include hx
theorem yk9: []∈setsN (3):=by
 have h:=yli;unfold zmt at h;have h:=List.all_eq_true.1 (List.all_eq_true.1 (List.all_eq_true.1 h false (by decide)) false (by decide)) false (by decide);obtain⟨s,hs,e⟩:=List.any_eq_true.1 h;have e:=eq_of_beq e;rw[e]at hs;exact hs
theorem xf1:(zu T).call 26 [z5 x.pk,.int .i64 (nd x).length,.sl (!((prf x).map ptV).isEmpty) 2 ((prf x).map ptV)] [] 0 []=some (.int .i64 0,[],0,[]):=by
 cases hp:prf x with
 |nil=>
  have h0:(nd x).length=0:=by
   rcases Nat.eq_zero_or_pos (nd x).length with h|h
   ·exact h
   ·exfalso
    have hm:([]:List Int)∈fwr (nd x).length (setsN (3)):=by
     unfold fwr;rw[List.mem_filter];exact⟨yk9 hx,by simpa using h⟩
    have:=List.mem_map_of_mem (f:=hdQ x.pk) hm;rw[show(fwr (nd x).length (setsN (3))).map (hdQ x.pk)= []from hp]at this;cases this
  rw[h0];exact xgm x.pk (zdt hx) (zfm hx) (zgi hx) (by rw[pk_c];intro e;have:=yk9 hx;rw[e]at this;cases this) (by rw[pk_c];exact srtd hx)
 |cons a r=>
  have h:=xf2 hx;rw[hp]at h;exact h
end Go.Den.FaT
namespace Go.Den.FaT
open Go Go.Proofs Go.Den
theorem xep(B:Nat→Int)(I:Int)(m:Nat)(hm:I≤B m):∀n,m<n→(m:Int)≤dsc B I n:=by
 intro n
 induction n with
 |zero=>intro h;omega
 |succ n ih=>
  intro h;unfold dsc;split
  ·rename_i hlt
   have:m≠n:=fun e=>by subst e;omega
   exact ih (by omega)
  ·omega
theorem ym7{A B:Nat→Int}(hAB:∀k,A k≤B k)(I:Int)(n':Nat):∀n,n≤n'→dsc A I n≤dsc B I n':=by
 intro n
 induction n with
 |zero=>
  intro _;have:=(zic B I n').1;show(-1:Int)≤_;exact this
 |succ n ih=>
  intro h;by_cases hlt:A n<I
  ·rw[show dsc A I (n+1)=dsc A I n from if_pos hlt]
   exact ih (by omega)
  ·rw[show dsc A I (n+1)=n from if_neg hlt]
   exact xep B I n (by have:=hAB n;omega) n' (by omega)
theorem zmf{A B:Nat→Int}(hAB:∀k,A k≤B k)(n:Nat):∀I,pI A n I≤pI B n I
 |0=>ym7 hAB 0 n n (Nat.le_refl n)
 |I+1=>by
  have h:=zmf hAB n I;have h1:=zao A n I;have h2:=zao B n I;unfold pI;exact ym7 hAB _ _ _ (by omega)
theorem yqc{A B:Nat→Int}(hAB:∀k,A k≤B k)(n:Nat)(drop:Int)(hd:0≤drop)(I:Nat):kj A n drop I≤kj B n drop I:=by
 have h:=zmf hAB n I;unfold kj;split
 ·split<;>omega
 ·split<;>omega
theorem znr{v w:Nat→Int}(h:∀k,v k≤w k)(i:Nat):crr v i≤crr w i:=by
 have:=zmf h 201 i;unfold crr;omega
theorem zoc{t:List (Int×Int)}(ht:tbOk t){drop:Int}(hd:0≤drop)(cells:Int){l:Int}(hl:0≤l∧l≤1000)(k:Nat):byS t drop (zd cells l) k≤byS t drop (zd cells 1000) k:=by
 unfold byS zd;rw[List.map_cons,List.map_cons,List.sum_cons,List.sum_cons];have hlen:(xn t l).length=(xn t 1000).length:=by simp[xn]
 have h:∀k,Af (xn t l) k≤Af (xn t 1000) k:=fun k=>by
  unfold Af xn;rw[List.getD_eq_getElem?_getD,List.getD_eq_getElem?_getD,List.getElem?_map,List.getElem?_map];by_cases hk:k<(z7 t).toNat+1
  ·rw[List.getElem?_range hk]
   exact(zn2 ht (by omega) ⟨hl.1,hl.2⟩ (by decide)).2.1
  ·rw[List.getElem?_eq_none (by simpa using hk)]
   exact Int.le_refl _
 have:=yqc h (xn t l).length drop hd k;rw[hlen]at this⊢;omega
theorem ytb{t:List (Int×Int)}(ht:tbOk t){drop:Int}(hd:0≤drop)(cells:Int){l:Int}(hl:0≤l∧l≤1000)(v:Nat):jj t drop (zd cells l) v≤jj t drop (zd cells 1000) v:=by
 unfold jj;exact Int.mul_le_mul_of_nonneg_left (znr (zoc ht hd cells hl) v) (by omega)
theorem vk(tr i:Int):xk tr i=0∨xk tr i=1:=by
 unfold xk;generalize (BitVec.ofInt IntKind.u8.bits (tr.fdiv (2^(min i.toNat IntKind.u8.bits))))=b;rw[BitVec.toNat_and]
 have h:b.toNat&&&(BitVec.ofInt IntKind.u8.bits 1).toNat≤1:=by
  refine Nat.le_trans Nat.and_le_right ?_;decide
 generalize b.toNat&&&(BitVec.ofInt IntKind.u8.bits 1).toNat=n at h;have:n=0∨n=1:=by omega
 rcases this with rfl|rfl
 ·exact .inl (by decide)
 ·exact .inr (by decide)
def volt(vs:List Int)(j:Nat):Nat:=(vs.getD j 0 %801).toNat
def q8(l0 l1 l2:Int)(i:Nat):Int:=(match i with|0=>l0|1=>l1|_=>l2) %1001
def uh(t:List (Int×Int))(drop cells l0 l1 l2 tr wide:Int)(vs:List Int):Gq where
 m:=vs.length
 f:=fun j=>jj t drop (zd cells 1000) (volt vs j)
 g:=fun i j=>jj t drop (zd cells (q8 l0 l1 l2 i)) (volt vs j)
 tr:=fun i=>xk tr i==1
 w:=wide %4
theorem zgd(vs:List Int)(j:Nat):volt vs j≤800:=by unfold volt;omega
theorem ze4(l0 l1 l2:Int)(i:Nat):0≤q8 l0 l1 l2 i∧q8 l0 l1 l2 i≤1000:=by unfold q8;omega
theorem zdi{t:List (Int×Int)}(ht:tbOk t){drop:Int}(hd:0≤drop∧drop≤10)(cells l0 l1 l2 tr wide:Int){vs:List Int}(h1:1≤vs.length)(h3:vs.length≤3):(uh t drop cells l0 l1 l2 tr wide vs).ok where
 m1:=h1
 m3:=h3
 f:=fun j=>zmd _ _ _ _ (zgd vs j)
 g:=fun i j=>⟨(zmd _ _ _ _ (zgd vs j)).1,ytb ht hd.1 cells (ze4 l0 l1 l2 i) _⟩
 w:=by show 0≤wide %4∧wide %4≤3;omega
end Go.Den.FaT
namespace Go.Den.FaT
open Go Go.Proofs Go.Den
def rwL(x:Gq)(c j:Nat):List Int:=(List.range j).map fun k=>x.f k- x.rs c k
def czL(x:Gq)(i j:Nat):List (Int×Int):=(List.range j).map fun k=>(max 0 (x.lo i k- x.w),min 1000000 (x.lo i k+x.w))
def vf(x:Gq)(i j:Nat):List Int:=(List.range j).map fun k=>x.lo i k
theorem zpm(x:Gq)(c j:Nat):rwL x c (j+1)=rwL x c j++ [x.f j- x.rs c j]:=by unfold rwL;rw[List.range_succ,List.map_append];rfl
theorem ynd(x:Gq)(i j:Nat):czL x i (j+1)=czL x i j++ [(max 0 (x.lo i j- x.w),min 1000000 (x.lo i j+x.w))]:=by unfold czL;rw[List.range_succ,List.map_append];rfl
theorem ylr(x:Gq)(i j:Nat):vf x i (j+1)=vf x i j++ [x.lo i j]:=by unfold vf;rw[List.range_succ,List.map_append];rfl
theorem zp(x:Gq)(c j:Nat):(rwL x c j).length=j:=by simp[rwL]
theorem vj(x:Gq)(i j:Nat):(czL x i j).length=j:=by simp[czL]
theorem js(x:Gq)(i j:Nat):(vf x i j).length=j:=by simp[vf]
theorem zbb(x:Gq)(c j:Nat)(h:c %2=0):x.f j- x.rs c j=x.f j:=by unfold Gq.rs;rw[if_neg (by omega)];omega
theorem zc9(x:Gq)(i j:Nat)(h:x.tr i=false):x.f j- x.rs (2*i+1) j=x.f j:=by
 unfold Gq.rs;rw[show(2*i+1)/2=i by omega,if_neg (by rw[h];simp)];omega
theorem zc8(x:Gq)(i j:Nat)(h:x.tr i=true):x.f j- x.rs (2*i+1) j=x.g i j:=by
 unfold Gq.rs Gq.lo;rw[show(2*i+1)/2=i by omega,if_pos ⟨by omega,h⟩];omega
theorem zg1(x:Gq):z5 x.pk= .agg [.sl true 1 [.sl true 1 ((rwL x 0 x.m).map intV),.sl true 1 ((rwL x 1 x.m).map intV),.sl true 1 ((rwL x 2 x.m).map intV),.sl true 1 ((rwL x 3 x.m).map intV),.sl true 1 ((rwL x 4 x.m).map intV),.sl true 1 ((rwL x 5 x.m).map intV),.sl true 1 ((rwL x 6 x.m).map intV)],.int .i64 0,.sl true 3 [.agg [.str [99,48],.int .i64 1,.sl true 2 ((czL x 0 x.m).map ptV)],.agg [.str [99,49],.int .i64 3,.sl true 2 ((czL x 1 x.m).map ptV)],.agg [.str [99,50],.int .i64 5,.sl true 2 ((czL x 2 x.m).map ptV)]]]:=rfl
section
variable (bt:Bool) (t:List (Int×Int)) (drop cells l0 l1 l2 tr wide:Int) (bv:Bool) (vs:List Int)
variable (ht:tbOk t) (hd:0≤drop∧drop≤10) (hc:0≤cells∧cells≤255) (hl0:0≤l0∧l0≤65535) (hl1:0≤l1∧l1≤65535) (hl2:0≤l2∧l2≤65535) (hw:0≤wide∧wide≤255) (h1:1≤vs.length) (h3:vs.length≤3) (hv:∀x∈vs,0≤x∧x≤65535)
include ht hd hc hl0 hl1 hl2 hw h1 h3 hv
theorem zo5(j:Nat)(hj:j<vs.length):(IntKind.i64.wrap vs[j]).tmod 801=(volt vs j:Int):=by
 have h:=hv _ (List.getElem_mem hj);rw[wrap64 (by omega) (by omega),Int.tmod_eq_emod_of_nonneg h.1];unfold volt;rw[List.getD_eq_getElem?_getD,List.getElem?_eq_getElem hj];simp only[Option.getD_some];omega
theorem ym5(j:Nat):(zu T).call 22 [qy bt t drop cells l0 l1 l2 tr wide bv vs,.sl true 1 ((zd cells 1000).map intV),.int .i64 (volt vs j)] [] 0 []=some (.tup [.int .i64 ((uh t drop cells l0 l1 l2 tr wide vs).f j),.bool true],[],0,[]):=
 g22 bt t drop cells l0 l1 l2 tr wide bv vs _ (zdr ht hd (by decide)) (volt vs j) (zgd vs j)
theorem zdy(i j:Nat):(zu T).call 22 [qy bt t drop cells l0 l1 l2 tr wide bv vs,.sl true 1 ((zd cells (q8 l0 l1 l2 i)).map intV),.int .i64 (volt vs j)] [] 0 []=some (.tup [.int .i64 ((uh t drop cells l0 l1 l2 tr wide vs).g i j),.bool true],[],0,[]):=
 g22 bt t drop cells l0 l1 l2 tr wide bv vs _ (zdr ht hd (ze4 l0 l1 l2 i)) (volt vs j) (zgd vs j)
theorem zo4:(IntKind.i64.wrap wide).tmod 4=wide %4:=by
 rw[wrap64 (by omega) (by omega),Int.tmod_eq_emod_of_nonneg hw.1]
theorem zhk:(IntKind.i64.wrap l0).tmod 1001=q8 l0 l1 l2 0:=by
 rw[wrap64 (by omega) (by omega),Int.tmod_eq_emod_of_nonneg hl0.1];rfl
theorem zbi:(IntKind.i64.wrap l1).tmod 1001=q8 l0 l1 l2 1:=by
 rw[wrap64 (by omega) (by omega),Int.tmod_eq_emod_of_nonneg hl1.1];rfl
theorem jd:(IntKind.i64.wrap l2).tmod 1001=q8 l0 l1 l2 2:=by
 rw[wrap64 (by omega) (by omega),Int.tmod_eq_emod_of_nonneg hl2.1];rfl
theorem yrd(x:Gq)(hx:uh t drop cells l0 l1 l2 tr wide vs=x):HV0 bt t drop cells l0 l1 l2 tr wide bv vs=HV bt t drop cells l0 l1 l2 tr wide bv vs (rwL x 0 1) (rwL x 1 1) (rwL x 2 1) (rwL x 3 1) (rwL x 4 1) (rwL x 5 1) (rwL x 6 1) (czL x 0 1) (czL x 1 1) (czL x 2 1) (vf x 0 1) (vf x 1 1) (vf x 2 1) 1:=by
 have hok:=zdi ht hd cells l0 l1 l2 tr wide h1 h3;rw[hx]at hok;have hf:=hok.f 0;have hwd:0≤x.w∧x.w≤3:=hok.w;have ew:(IntKind.i64.wrap wide).tmod 4=x.w:=by rw[zo4 t drop cells l0 l1 l2 wide vs ht hd hc hl0 hl1 hl2 hw h1 h3 hv,←hx];rfl
 have ef:=ym5 bt t drop cells l0 l1 l2 tr wide bv vs ht hd hc hl0 hl1 hl2 hw h1 h3 hv 0;rw[hx]at ef;refine(yy2 bt t drop cells l0 l1 l2 tr wide bv vs (vs[0]'(by omega)) (volt vs 0) (x.f 0) (zo5 t drop cells l0 l1 l2 wide vs ht hd hc hl0 hl1 hl2 hw h1 h3 hv 0 (by omega)) (decide_eq_true (by omega)) (List.getElem?_eq_getElem _) (uc bt t drop cells l0 l1 l2 tr wide bv vs hc 1000) ef).trans ?_;have eg0:=zdy bt t drop cells l0 l1 l2 tr wide bv vs ht hd hc hl0 hl1 hl2 hw h1 h3 hv 0 0;rw[hx]at eg0;have hg0:=hok.g 0 0;have e20_0:=uc bt t drop cells l0 l1 l2 tr wide bv vs hc (q8 l0 l1 l2 0);have ht0:x.tr 0=(xk tr 0==1):=by rw[←hx];rfl
 have eg1:=zdy bt t drop cells l0 l1 l2 tr wide bv vs ht hd hc hl0 hl1 hl2 hw h1 h3 hv 1 0;rw[hx]at eg1;have hg1:=hok.g 1 0;have e20_1:=uc bt t drop cells l0 l1 l2 tr wide bv vs hc (q8 l0 l1 l2 1);have ht1:x.tr 1=(xk tr 1==1):=by rw[←hx];rfl
 have eg2:=zdy bt t drop cells l0 l1 l2 tr wide bv vs ht hd hc hl0 hl1 hl2 hw h1 h3 hv 2 0;rw[hx]at eg2;have hg2:=hok.g 2 0;have e20_2:=uc bt t drop cells l0 l1 l2 tr wide bv vs hc (q8 l0 l1 l2 2);have ht2:x.tr 2=(xk tr 2==1):=by rw[←hx];rfl
 have r0:∀c,rwL x c 1= [x.f 0- x.rs c 0]:=fun c=>zpm x c 0;have c0:∀i,czL x i 1= [(max 0 (x.lo i 0- x.w),min 1000000 (x.lo i 0+x.w))]:=fun i=>ynd x i 0;have q0:∀i,vf x i 1= [x.lo i 0]:=fun i=>ylr x i 0;have o1:=zc9 x 0 0;have o3:=zc9 x 1 0;have o5:=zc9 x 2 0;have p1:=zc8 x 0 0;have p3:=zc8 x 1 0;have p5:=zc8 x 2 0;simp only[r0,c0,q0,zbb x 0 0 rfl,zbb x 2 0 rfl,zbb x 4 0 rfl,zbb x 6 0 rfl];rcases vk tr 0 with b0|b0
 ·rw[show x.f 0- x.rs 1 0=x.f 0 from o1 (by rw[ht0,b0];rfl)]
  refine(yzh bt t drop cells l0 l1 l2 tr wide bv vs _ _ _ _ _ _ _ _ _ (x.g 0 0) x.w (q8 l0 l1 l2 0) ew (zhk t drop cells l0 l1 l2 wide vs ht hd hc hl0 hl1 hl2 hw h1 h3 hv) (by omega) b0 e20_0 eg0).trans ?_;rcases vk tr 1 with b1|b1
  ·rw[show x.f 0- x.rs 3 0=x.f 0 from o3 (by rw[ht1,b1];rfl)]
   refine(yl4 bt t drop cells l0 l1 l2 tr wide bv vs _ _ _ _ _ _ _ _ _ _ _ (x.g 1 0) x.w (q8 l0 l1 l2 1) ew (zbi t drop cells l0 l1 l2 wide vs ht hd hc hl0 hl1 hl2 hw h1 h3 hv) (by omega) b1 e20_1 eg1).trans ?_;rcases vk tr 2 with b2|b2
   ·rw[show x.f 0- x.rs 5 0=x.f 0 from o5 (by rw[ht2,b2];rfl)]
    refine(zhv bt t drop cells l0 l1 l2 tr wide bv vs _ _ _ _ _ _ _ _ _ _ _ _ _ (x.g 2 0) x.w (q8 l0 l1 l2 2) ew (jd t drop cells l0 l1 l2 wide vs ht hd hc hl0 hl1 hl2 hw h1 h3 hv) (by omega) b2 e20_2 eg2).trans ?_;exact jc bt t drop cells l0 l1 l2 tr wide bv vs _ _ _ _ _ _ _ _ _ _ _ _ _ _ _ 0 (by omega)
   ·rw[show x.f 0- x.rs 5 0=x.g 2 0 from p5 (by rw[ht2,b2];rfl)]
    refine(zhu bt t drop cells l0 l1 l2 tr wide bv vs _ _ _ _ _ _ _ _ _ _ _ _ _ (x.g 2 0) x.w (q8 l0 l1 l2 2) ew (jd t drop cells l0 l1 l2 wide vs ht hd hc hl0 hl1 hl2 hw h1 h3 hv) (by omega) b2 e20_2 eg2).trans ?_;exact jc bt t drop cells l0 l1 l2 tr wide bv vs _ _ _ _ _ _ _ _ _ _ _ _ _ _ _ 0 (by omega)
  ·rw[show x.f 0- x.rs 3 0=x.g 1 0 from p3 (by rw[ht1,b1];rfl)]
   refine(yl3 bt t drop cells l0 l1 l2 tr wide bv vs _ _ _ _ _ _ _ _ _ _ _ (x.g 1 0) x.w (q8 l0 l1 l2 1) ew (zbi t drop cells l0 l1 l2 wide vs ht hd hc hl0 hl1 hl2 hw h1 h3 hv) (by omega) b1 e20_1 eg1).trans ?_;rcases vk tr 2 with b2|b2
   ·rw[show x.f 0- x.rs 5 0=x.f 0 from o5 (by rw[ht2,b2];rfl)]
    refine(zhv bt t drop cells l0 l1 l2 tr wide bv vs _ _ _ _ _ _ _ _ _ _ _ _ _ (x.g 2 0) x.w (q8 l0 l1 l2 2) ew (jd t drop cells l0 l1 l2 wide vs ht hd hc hl0 hl1 hl2 hw h1 h3 hv) (by omega) b2 e20_2 eg2).trans ?_;exact jc bt t drop cells l0 l1 l2 tr wide bv vs _ _ _ _ _ _ _ _ _ _ _ _ _ _ _ 0 (by omega)
   ·rw[show x.f 0- x.rs 5 0=x.g 2 0 from p5 (by rw[ht2,b2];rfl)]
    refine(zhu bt t drop cells l0 l1 l2 tr wide bv vs _ _ _ _ _ _ _ _ _ _ _ _ _ (x.g 2 0) x.w (q8 l0 l1 l2 2) ew (jd t drop cells l0 l1 l2 wide vs ht hd hc hl0 hl1 hl2 hw h1 h3 hv) (by omega) b2 e20_2 eg2).trans ?_;exact jc bt t drop cells l0 l1 l2 tr wide bv vs _ _ _ _ _ _ _ _ _ _ _ _ _ _ _ 0 (by omega)
 ·rw[show x.f 0- x.rs 1 0=x.g 0 0 from p1 (by rw[ht0,b0];rfl)]
  refine(yzg bt t drop cells l0 l1 l2 tr wide bv vs _ _ _ _ _ _ _ _ _ (x.g 0 0) x.w (q8 l0 l1 l2 0) ew (zhk t drop cells l0 l1 l2 wide vs ht hd hc hl0 hl1 hl2 hw h1 h3 hv) (by omega) b0 e20_0 eg0).trans ?_;rcases vk tr 1 with b1|b1
  ·rw[show x.f 0- x.rs 3 0=x.f 0 from o3 (by rw[ht1,b1];rfl)]
   refine(yl4 bt t drop cells l0 l1 l2 tr wide bv vs _ _ _ _ _ _ _ _ _ _ _ (x.g 1 0) x.w (q8 l0 l1 l2 1) ew (zbi t drop cells l0 l1 l2 wide vs ht hd hc hl0 hl1 hl2 hw h1 h3 hv) (by omega) b1 e20_1 eg1).trans ?_;rcases vk tr 2 with b2|b2
   ·rw[show x.f 0- x.rs 5 0=x.f 0 from o5 (by rw[ht2,b2];rfl)]
    refine(zhv bt t drop cells l0 l1 l2 tr wide bv vs _ _ _ _ _ _ _ _ _ _ _ _ _ (x.g 2 0) x.w (q8 l0 l1 l2 2) ew (jd t drop cells l0 l1 l2 wide vs ht hd hc hl0 hl1 hl2 hw h1 h3 hv) (by omega) b2 e20_2 eg2).trans ?_;exact jc bt t drop cells l0 l1 l2 tr wide bv vs _ _ _ _ _ _ _ _ _ _ _ _ _ _ _ 0 (by omega)
   ·rw[show x.f 0- x.rs 5 0=x.g 2 0 from p5 (by rw[ht2,b2];rfl)]
    refine(zhu bt t drop cells l0 l1 l2 tr wide bv vs _ _ _ _ _ _ _ _ _ _ _ _ _ (x.g 2 0) x.w (q8 l0 l1 l2 2) ew (jd t drop cells l0 l1 l2 wide vs ht hd hc hl0 hl1 hl2 hw h1 h3 hv) (by omega) b2 e20_2 eg2).trans ?_;exact jc bt t drop cells l0 l1 l2 tr wide bv vs _ _ _ _ _ _ _ _ _ _ _ _ _ _ _ 0 (by omega)
  ·rw[show x.f 0- x.rs 3 0=x.g 1 0 from p3 (by rw[ht1,b1];rfl)]
   refine(yl3 bt t drop cells l0 l1 l2 tr wide bv vs _ _ _ _ _ _ _ _ _ _ _ (x.g 1 0) x.w (q8 l0 l1 l2 1) ew (zbi t drop cells l0 l1 l2 wide vs ht hd hc hl0 hl1 hl2 hw h1 h3 hv) (by omega) b1 e20_1 eg1).trans ?_;rcases vk tr 2 with b2|b2
   ·rw[show x.f 0- x.rs 5 0=x.f 0 from o5 (by rw[ht2,b2];rfl)]
    refine(zhv bt t drop cells l0 l1 l2 tr wide bv vs _ _ _ _ _ _ _ _ _ _ _ _ _ (x.g 2 0) x.w (q8 l0 l1 l2 2) ew (jd t drop cells l0 l1 l2 wide vs ht hd hc hl0 hl1 hl2 hw h1 h3 hv) (by omega) b2 e20_2 eg2).trans ?_;exact jc bt t drop cells l0 l1 l2 tr wide bv vs _ _ _ _ _ _ _ _ _ _ _ _ _ _ _ 0 (by omega)
   ·rw[show x.f 0- x.rs 5 0=x.g 2 0 from p5 (by rw[ht2,b2];rfl)]
    refine(zhu bt t drop cells l0 l1 l2 tr wide bv vs _ _ _ _ _ _ _ _ _ _ _ _ _ (x.g 2 0) x.w (q8 l0 l1 l2 2) ew (jd t drop cells l0 l1 l2 wide vs ht hd hc hl0 hl1 hl2 hw h1 h3 hv) (by omega) b2 e20_2 eg2).trans ?_;exact jc bt t drop cells l0 l1 l2 tr wide bv vs _ _ _ _ _ _ _ _ _ _ _ _ _ _ _ 0 (by omega)
theorem yrc(x:Gq)(hx:uh t drop cells l0 l1 l2 tr wide vs=x)(j:Nat)(hj:j<vs.length):HV bt t drop cells l0 l1 l2 tr wide bv vs (rwL x 0 j) (rwL x 1 j) (rwL x 2 j) (rwL x 3 j) (rwL x 4 j) (rwL x 5 j) (rwL x 6 j) (czL x 0 j) (czL x 1 j) (czL x 2 j) (vf x 0 j) (vf x 1 j) (vf x 2 j) j=HV bt t drop cells l0 l1 l2 tr wide bv vs (rwL x 0 (j+1)) (rwL x 1 (j+1)) (rwL x 2 (j+1)) (rwL x 3 (j+1)) (rwL x 4 (j+1)) (rwL x 5 (j+1)) (rwL x 6 (j+1)) (czL x 0 (j+1)) (czL x 1 (j+1)) (czL x 2 (j+1)) (vf x 0 (j+1)) (vf x 1 (j+1)) (vf x 2 (j+1)) (j+1):=by
 have hok:=zdi ht hd cells l0 l1 l2 tr wide h1 h3;rw[hx]at hok;have hf:=hok.f j;have hwd:0≤x.w∧x.w≤3:=hok.w;have ew:(IntKind.i64.wrap wide).tmod 4=x.w:=by rw[zo4 t drop cells l0 l1 l2 wide vs ht hd hc hl0 hl1 hl2 hw h1 h3 hv,←hx];rfl
 have ef:=ym5 bt t drop cells l0 l1 l2 tr wide bv vs ht hd hc hl0 hl1 hl2 hw h1 h3 hv j;rw[hx]at ef;refine(yy1 bt t drop cells l0 l1 l2 tr wide bv vs _ _ _ _ _ _ _ _ _ _ _ _ _ j (by omega) (zp x 0 j) (zp x 1 j) (zp x 2 j) (zp x 3 j) (zp x 4 j) (zp x 5 j) (zp x 6 j) (vs[j]'(by omega)) (volt vs j) (x.f j) (zo5 t drop cells l0 l1 l2 wide vs ht hd hc hl0 hl1 hl2 hw h1 h3 hv j (by omega)) (decide_eq_true (by omega)) (decide_eq_true (by omega)) (List.getElem?_eq_getElem _) (uc bt t drop cells l0 l1 l2 tr wide bv vs hc 1000) ef).trans ?_;have eg0:=zdy bt t drop cells l0 l1 l2 tr wide bv vs ht hd hc hl0 hl1 hl2 hw h1 h3 hv 0 j;rw[hx]at eg0;have hg0:=hok.g 0 j;have e20_0:=uc bt t drop cells l0 l1 l2 tr wide bv vs hc (q8 l0 l1 l2 0);have ht0:x.tr 0=(xk tr 0==1):=by rw[←hx];rfl
 have eg1:=zdy bt t drop cells l0 l1 l2 tr wide bv vs ht hd hc hl0 hl1 hl2 hw h1 h3 hv 1 j;rw[hx]at eg1;have hg1:=hok.g 1 j;have e20_1:=uc bt t drop cells l0 l1 l2 tr wide bv vs hc (q8 l0 l1 l2 1);have ht1:x.tr 1=(xk tr 1==1):=by rw[←hx];rfl
 have eg2:=zdy bt t drop cells l0 l1 l2 tr wide bv vs ht hd hc hl0 hl1 hl2 hw h1 h3 hv 2 j;rw[hx]at eg2;have hg2:=hok.g 2 j;have e20_2:=uc bt t drop cells l0 l1 l2 tr wide bv vs hc (q8 l0 l1 l2 2);have ht2:x.tr 2=(xk tr 2==1):=by rw[←hx];rfl
 have o1:=zc9 x 0 j;have o3:=zc9 x 1 j;have o5:=zc9 x 2 j;have p1:=zc8 x 0 j;have p3:=zc8 x 1 j;have p5:=zc8 x 2 j;simp only[zpm,ynd,ylr,zbb x 0 j rfl,zbb x 2 j rfl,zbb x 4 j rfl,zbb x 6 j rfl];rcases vk tr 0 with b0|b0
 ·rw[show x.f j- x.rs 1 j=x.f j from o1 (by rw[ht0,b0];rfl)]
  refine(yzf bt t drop cells l0 l1 l2 tr wide bv vs _ _ _ _ _ _ _ _ _ _ _ _ _ _ _ _ _ _ _ _ j (by omega) (zp x 0 j) (zp x 1 j) (zp x 2 j) (zp x 3 j) (zp x 4 j) (zp x 5 j) (zp x 6 j) (vj x 0 j) (js x 0 j) _ _ (x.g 0 j) x.w (q8 l0 l1 l2 0) ew (zhk t drop cells l0 l1 l2 wide vs ht hd hc hl0 hl1 hl2 hw h1 h3 hv) (by omega) b0 e20_0 eg0).trans ?_;rcases vk tr 1 with b1|b1
  ·rw[show x.f j- x.rs 3 j=x.f j from o3 (by rw[ht1,b1];rfl)]
   refine(yl2 bt t drop cells l0 l1 l2 tr wide bv vs _ _ _ _ _ _ _ _ _ _ _ _ _ _ _ _ _ _ _ _ j (by omega) (zp x 0 j) (zp x 1 j) (zp x 2 j) (zp x 3 j) (zp x 4 j) (zp x 5 j) (zp x 6 j) (vj x 1 j) (js x 1 j) _ _ (x.g 1 j) x.w (q8 l0 l1 l2 1) ew (zbi t drop cells l0 l1 l2 wide vs ht hd hc hl0 hl1 hl2 hw h1 h3 hv) (by omega) b1 e20_1 eg1).trans ?_;rcases vk tr 2 with b2|b2
   ·rw[show x.f j- x.rs 5 j=x.f j from o5 (by rw[ht2,b2];rfl)]
    refine(zht bt t drop cells l0 l1 l2 tr wide bv vs _ _ _ _ _ _ _ _ _ _ _ _ _ _ _ _ _ _ _ _ j (by omega) (zp x 0 j) (zp x 1 j) (zp x 2 j) (zp x 3 j) (zp x 4 j) (zp x 5 j) (zp x 6 j) (vj x 2 j) (js x 2 j) _ _ (x.g 2 j) x.w (q8 l0 l1 l2 2) ew (jd t drop cells l0 l1 l2 wide vs ht hd hc hl0 hl1 hl2 hw h1 h3 hv) (by omega) b2 e20_2 eg2).trans ?_;exact jc bt t drop cells l0 l1 l2 tr wide bv vs _ _ _ _ _ _ _ _ _ _ _ _ _ _ _ _ (by omega)
   ·rw[show x.f j- x.rs 5 j=x.g 2 j from p5 (by rw[ht2,b2];rfl)]
    refine(zhs bt t drop cells l0 l1 l2 tr wide bv vs _ _ _ _ _ _ _ _ _ _ _ _ _ _ _ _ _ _ _ _ j (by omega) (zp x 0 j) (zp x 1 j) (zp x 2 j) (zp x 3 j) (zp x 4 j) (zp x 5 j) (zp x 6 j) (vj x 2 j) (js x 2 j) _ _ (x.g 2 j) x.w (q8 l0 l1 l2 2) ew (jd t drop cells l0 l1 l2 wide vs ht hd hc hl0 hl1 hl2 hw h1 h3 hv) (by omega) b2 e20_2 eg2).trans ?_;exact jc bt t drop cells l0 l1 l2 tr wide bv vs _ _ _ _ _ _ _ _ _ _ _ _ _ _ _ _ (by omega)
  ·rw[show x.f j- x.rs 3 j=x.g 1 j from p3 (by rw[ht1,b1];rfl)]
   refine(yl1 bt t drop cells l0 l1 l2 tr wide bv vs _ _ _ _ _ _ _ _ _ _ _ _ _ _ _ _ _ _ _ _ j (by omega) (zp x 0 j) (zp x 1 j) (zp x 2 j) (zp x 3 j) (zp x 4 j) (zp x 5 j) (zp x 6 j) (vj x 1 j) (js x 1 j) _ _ (x.g 1 j) x.w (q8 l0 l1 l2 1) ew (zbi t drop cells l0 l1 l2 wide vs ht hd hc hl0 hl1 hl2 hw h1 h3 hv) (by omega) b1 e20_1 eg1).trans ?_;rcases vk tr 2 with b2|b2
   ·rw[show x.f j- x.rs 5 j=x.f j from o5 (by rw[ht2,b2];rfl)]
    refine(zht bt t drop cells l0 l1 l2 tr wide bv vs _ _ _ _ _ _ _ _ _ _ _ _ _ _ _ _ _ _ _ _ j (by omega) (zp x 0 j) (zp x 1 j) (zp x 2 j) (zp x 3 j) (zp x 4 j) (zp x 5 j) (zp x 6 j) (vj x 2 j) (js x 2 j) _ _ (x.g 2 j) x.w (q8 l0 l1 l2 2) ew (jd t drop cells l0 l1 l2 wide vs ht hd hc hl0 hl1 hl2 hw h1 h3 hv) (by omega) b2 e20_2 eg2).trans ?_;exact jc bt t drop cells l0 l1 l2 tr wide bv vs _ _ _ _ _ _ _ _ _ _ _ _ _ _ _ _ (by omega)
   ·rw[show x.f j- x.rs 5 j=x.g 2 j from p5 (by rw[ht2,b2];rfl)]
    refine(zhs bt t drop cells l0 l1 l2 tr wide bv vs _ _ _ _ _ _ _ _ _ _ _ _ _ _ _ _ _ _ _ _ j (by omega) (zp x 0 j) (zp x 1 j) (zp x 2 j) (zp x 3 j) (zp x 4 j) (zp x 5 j) (zp x 6 j) (vj x 2 j) (js x 2 j) _ _ (x.g 2 j) x.w (q8 l0 l1 l2 2) ew (jd t drop cells l0 l1 l2 wide vs ht hd hc hl0 hl1 hl2 hw h1 h3 hv) (by omega) b2 e20_2 eg2).trans ?_;exact jc bt t drop cells l0 l1 l2 tr wide bv vs _ _ _ _ _ _ _ _ _ _ _ _ _ _ _ _ (by omega)
 ·rw[show x.f j- x.rs 1 j=x.g 0 j from p1 (by rw[ht0,b0];rfl)]
  refine(yze bt t drop cells l0 l1 l2 tr wide bv vs _ _ _ _ _ _ _ _ _ _ _ _ _ _ _ _ _ _ _ _ j (by omega) (zp x 0 j) (zp x 1 j) (zp x 2 j) (zp x 3 j) (zp x 4 j) (zp x 5 j) (zp x 6 j) (vj x 0 j) (js x 0 j) _ _ (x.g 0 j) x.w (q8 l0 l1 l2 0) ew (zhk t drop cells l0 l1 l2 wide vs ht hd hc hl0 hl1 hl2 hw h1 h3 hv) (by omega) b0 e20_0 eg0).trans ?_;rcases vk tr 1 with b1|b1
  ·rw[show x.f j- x.rs 3 j=x.f j from o3 (by rw[ht1,b1];rfl)]
   refine(yl2 bt t drop cells l0 l1 l2 tr wide bv vs _ _ _ _ _ _ _ _ _ _ _ _ _ _ _ _ _ _ _ _ j (by omega) (zp x 0 j) (zp x 1 j) (zp x 2 j) (zp x 3 j) (zp x 4 j) (zp x 5 j) (zp x 6 j) (vj x 1 j) (js x 1 j) _ _ (x.g 1 j) x.w (q8 l0 l1 l2 1) ew (zbi t drop cells l0 l1 l2 wide vs ht hd hc hl0 hl1 hl2 hw h1 h3 hv) (by omega) b1 e20_1 eg1).trans ?_;rcases vk tr 2 with b2|b2
   ·rw[show x.f j- x.rs 5 j=x.f j from o5 (by rw[ht2,b2];rfl)]
    refine(zht bt t drop cells l0 l1 l2 tr wide bv vs _ _ _ _ _ _ _ _ _ _ _ _ _ _ _ _ _ _ _ _ j (by omega) (zp x 0 j) (zp x 1 j) (zp x 2 j) (zp x 3 j) (zp x 4 j) (zp x 5 j) (zp x 6 j) (vj x 2 j) (js x 2 j) _ _ (x.g 2 j) x.w (q8 l0 l1 l2 2) ew (jd t drop cells l0 l1 l2 wide vs ht hd hc hl0 hl1 hl2 hw h1 h3 hv) (by omega) b2 e20_2 eg2).trans ?_;exact jc bt t drop cells l0 l1 l2 tr wide bv vs _ _ _ _ _ _ _ _ _ _ _ _ _ _ _ _ (by omega)
   ·rw[show x.f j- x.rs 5 j=x.g 2 j from p5 (by rw[ht2,b2];rfl)]
    refine(zhs bt t drop cells l0 l1 l2 tr wide bv vs _ _ _ _ _ _ _ _ _ _ _ _ _ _ _ _ _ _ _ _ j (by omega) (zp x 0 j) (zp x 1 j) (zp x 2 j) (zp x 3 j) (zp x 4 j) (zp x 5 j) (zp x 6 j) (vj x 2 j) (js x 2 j) _ _ (x.g 2 j) x.w (q8 l0 l1 l2 2) ew (jd t drop cells l0 l1 l2 wide vs ht hd hc hl0 hl1 hl2 hw h1 h3 hv) (by omega) b2 e20_2 eg2).trans ?_;exact jc bt t drop cells l0 l1 l2 tr wide bv vs _ _ _ _ _ _ _ _ _ _ _ _ _ _ _ _ (by omega)
  ·rw[show x.f j- x.rs 3 j=x.g 1 j from p3 (by rw[ht1,b1];rfl)]
   refine(yl1 bt t drop cells l0 l1 l2 tr wide bv vs _ _ _ _ _ _ _ _ _ _ _ _ _ _ _ _ _ _ _ _ j (by omega) (zp x 0 j) (zp x 1 j) (zp x 2 j) (zp x 3 j) (zp x 4 j) (zp x 5 j) (zp x 6 j) (vj x 1 j) (js x 1 j) _ _ (x.g 1 j) x.w (q8 l0 l1 l2 1) ew (zbi t drop cells l0 l1 l2 wide vs ht hd hc hl0 hl1 hl2 hw h1 h3 hv) (by omega) b1 e20_1 eg1).trans ?_;rcases vk tr 2 with b2|b2
   ·rw[show x.f j- x.rs 5 j=x.f j from o5 (by rw[ht2,b2];rfl)]
    refine(zht bt t drop cells l0 l1 l2 tr wide bv vs _ _ _ _ _ _ _ _ _ _ _ _ _ _ _ _ _ _ _ _ j (by omega) (zp x 0 j) (zp x 1 j) (zp x 2 j) (zp x 3 j) (zp x 4 j) (zp x 5 j) (zp x 6 j) (vj x 2 j) (js x 2 j) _ _ (x.g 2 j) x.w (q8 l0 l1 l2 2) ew (jd t drop cells l0 l1 l2 wide vs ht hd hc hl0 hl1 hl2 hw h1 h3 hv) (by omega) b2 e20_2 eg2).trans ?_;exact jc bt t drop cells l0 l1 l2 tr wide bv vs _ _ _ _ _ _ _ _ _ _ _ _ _ _ _ _ (by omega)
   ·rw[show x.f j- x.rs 5 j=x.g 2 j from p5 (by rw[ht2,b2];rfl)]
    refine(zhs bt t drop cells l0 l1 l2 tr wide bv vs _ _ _ _ _ _ _ _ _ _ _ _ _ _ _ _ _ _ _ _ j (by omega) (zp x 0 j) (zp x 1 j) (zp x 2 j) (zp x 3 j) (zp x 4 j) (zp x 5 j) (zp x 6 j) (vj x 2 j) (js x 2 j) _ _ (x.g 2 j) x.w (q8 l0 l1 l2 2) ew (jd t drop cells l0 l1 l2 wide vs ht hd hc hl0 hl1 hl2 hw h1 h3 hv) (by omega) b2 e20_2 eg2).trans ?_;exact jc bt t drop cells l0 l1 l2 tr wide bv vs _ _ _ _ _ _ _ _ _ _ _ _ _ _ _ _ (by omega)
theorem g9(x:Gq)(hx:uh t drop cells l0 l1 l2 tr wide vs=x):(zu T).call 9 [qy bt t drop cells l0 l1 l2 tr wide bv vs] [] 0 []=some (.tup [z5 x.pk,.agg [.sl true 1 ((vf x 0 x.m).map intV),.sl true 1 ((vf x 1 x.m).map intV),.sl true 1 ((vf x 2 x.m).map intV)],.bool true],[],0,[]):=by
 have hok:=zdi ht hd cells l0 l1 l2 tr wide h1 h3;rw[hx]at hok;have hm:vs.length=x.m:=by rw[←hx];rfl
 have e33:=c20 x.pk (zdt hok);rw[zfm hok,zg1]at e33;rw[zg1];refine st9 bt t drop cells l0 l1 l2 tr wide bv vs _ ?_;refine(yrd bt t drop cells l0 l1 l2 tr wide bv vs ht hd hc hl0 hl1 hl2 hw h1 h3 hv x hx).trans ?_
 have hall:∀j,1≤j→j≤vs.length→HV bt t drop cells l0 l1 l2 tr wide bv vs (rwL x 0 1) (rwL x 1 1) (rwL x 2 1) (rwL x 3 1) (rwL x 4 1) (rwL x 5 1) (rwL x 6 1) (czL x 0 1) (czL x 1 1) (czL x 2 1) (vf x 0 1) (vf x 1 1) (vf x 2 1) 1=HV bt t drop cells l0 l1 l2 tr wide bv vs (rwL x 0 j) (rwL x 1 j) (rwL x 2 j) (rwL x 3 j) (rwL x 4 j) (rwL x 5 j) (rwL x 6 j) (czL x 0 j) (czL x 1 j) (czL x 2 j) (vf x 0 j) (vf x 1 j) (vf x 2 j) j:=by
  intro j
  induction j with
  |zero=>intro h _;omega
  |succ j ih=>
   intro _ hj;by_cases h0:j=0
   ·subst h0;rfl
   ·exact(ih (by omega) (by omega)).trans (yrc bt t drop cells l0 l1 l2 tr wide bv vs ht hd hc hl0 hl1 hl2 hw h1 h3 hv x hx j (by omega))
 refine(hall vs.length h1 (Nat.le_refl _)).trans ?_;rw[←hm]at e33⊢;exact fi9 bt t drop cells l0 l1 l2 tr wide bv vs _ _ _ _ _ _ _ _ _ _ _ _ _ e33
end
end Go.Den.FaT
namespace Go.Den.FaT
open Go Go.Proofs Go.Den
theorem yzn(A B:List Int)(hAB:A.length=B.length)(hA:A.length<1000):∀i,i≤A.length→(zu T).loop false [.code (.loop zi5),.inBlock 0,.code (.seq zld .ret)] ⟨276,26,0,[(0,.sl true 1 (A.map intV)),(1,.sl true 1 (B.map intV)),(12,.int .i64 A.length),(13,.int .i64 i)],[],0,[]⟩=some (.ret (.bool (decide (A.drop i=B.drop i))),[],0,[]):=by
 refine xq A.length ?_ fun i hi ih=> ?_
 ·have h1:=z8 A.length
  rw[zx,List.drop_of_length_le (Nat.le_refl _),List.drop_of_length_le (by omega)];simp -implicitDefEqProofs only[go_sem,simprocAttr,h1]
  try rfl
 ·obtain⟨h1,h2,h3,h4,h5⟩:=zl hi (by omega)
  have hiB:i<B.length:=by omega
  have g2:decide (0≤(i:Int)∧(i:Int)<(B.length:Int))=true:=decide_eq_true (by omega);have g3:B[i]? =some B[i]:=List.getElem?_eq_getElem hiB;rw[zx];cases hc:(A[i] !=B[i])
  ·have he:A[i]=B[i]:=by simpa using hc
   have hd:decide (A.drop i=B.drop i)=decide (A.drop (i+1)=B.drop (i+1)):=by
    rw[h5,List.drop_eq_getElem_cons hiB,he];exact decide_eq_decide.2 ⟨fun h=>(List.cons.inj h).2,fun h=>by rw[h]⟩
   rw[hd];simp -implicitDefEqProofs only[go_sem,simprocAttr,h1,h2,h3,h4,g2,g3,hc,ih]
  ·have he:A[i]≠B[i]:=by simpa using hc
   have hd:decide (A.drop i=B.drop i)=false:=by
    rw[h5,List.drop_eq_getElem_cons hiB];exact decide_eq_false fun h=>he (List.cons.inj h).1
   rw[hd];simp -implicitDefEqProofs only[go_sem,simprocAttr,h1,h2,h3,h4,g2,g3,hc]
theorem yz2(A B:List Int)(hAB:A.length=B.length)(hA:A.length<1000):(zu T).call 276 [.sl true 1 (A.map intV),.sl true 1 (B.map intV)] [] 0 []=some (.bool (decide (A=B)),[],0,[]):=by
 have e:=yzn A B hAB hA 0 (by omega);rw[show((0:Nat):Int)=0 from rfl,List.drop_zero,List.drop_zero]at e;have h1:((A.length:Int) !=(B.length:Int))=false:=by simp[hAB]
 rw[xcq];simp -implicitDefEqProofs only[go_sem,simprocAttr,h1,e]
theorem yz3(A B:List Int)(hAB:A.length=B.length)(hA:A.length<1000):(zu T).call 275 [.sl true 1 (A.map intV),.sl true 1 (B.map intV)] [] 0 []=some (.bool (decide (A=B)),[],0,[]):=by
 have e:=yz2 A B hAB hA;rw[xcr];simp -implicitDefEqProofs only[go_sem,simprocAttr,e]
theorem yzm(A B:List Int)(hAB:A.length=B.length)(hA:A.length<1000)(hle:∀i (h:i<B.length),B[i]≤A[i]):∀i,i≤B.length→(zu T).loop false [.code (.loop zi4),.inBlock 0,.code (.seq zlc .ret)] ⟨277,21,0,[(0,.sl true 1 (A.map intV)),(7,.sl true 1 (B.map intV)),(8,.int .i64 B.length),(9,.int .i64 i)],[],0,[]⟩=some (.ret (.bool false),[],0,[]):=by
 refine xq B.length ?_ fun i hi ih=> ?_
 ·have h1:=z8 B.length
  rw[zx];simp -implicitDefEqProofs only[go_sem,simprocAttr,h1]
 ·obtain⟨h1,h2,h3,h4,h5⟩:=zl hi (by omega)
  have g2:decide (0≤(i:Int)∧(i:Int)<(A.length:Int))=true:=decide_eq_true (by omega);have g3:A[i]? =some A[i]:=List.getElem?_eq_getElem (by omega);have d1:decide (B[i]>A[i])=false:=decide_eq_false (by have:=hle i hi;omega);have d1':decide (A[i]<B[i])=false:=decide_eq_false (by have:=hle i hi;omega);rw[zx];simp -implicitDefEqProofs only[go_sem,simprocAttr,h1,h2,h3,h4,g2,g3,d1,d1',ih]
theorem yz1(A B:List Int)(hAB:A.length=B.length)(hA:A.length<1000)(hle:∀i (h:i<B.length),B[i]≤A[i]):(zu T).call 277 [.sl true 1 (A.map intV),.sl true 1 (B.map intV)] [] 0 []=some (.bool false,[],0,[]):=by
 have e:=yzm A B hAB hA hle 0 (by omega);rw[show((0:Nat):Int)=0 from rfl]at e;rw[xcp];simp -implicitDefEqProofs only[go_sem,simprocAttr,e]
theorem yzq(B:List Int)(hB:B.length<1000):∀i,i≤B.length→∀m:Int,∃r:Int,(zu T).loop false [.code (.loop zjt),.inBlock 0,.code (.seq zl2 .ret)] ⟨132,25,0,[(0,.sl true 1 (B.map intV)),(3,.int .i64 m),(4,.int .i64 i)],[],0,[]⟩=some (.ret (.int .i64 r),[],0,[]):=by
 refine xq B.length ?_ fun i hi ih=> ?_
 ·intro m
  have h1:=z8 B.length;refine⟨m,?_⟩;rw[zx];simp -implicitDefEqProofs only[go_sem,simprocAttr,h1]
 ·intro m
  obtain⟨h1,h2,h3,h4,h5⟩:=zl hi (by omega);obtain⟨r,hr⟩:=ih (max m B[i]);refine⟨r,?_⟩;rw[zx];simp -implicitDefEqProofs only[go_sem,simprocAttr,h1,h2,h3,h4,hr]
theorem yz0(A B:List Int)(hB:B.length<1000)(h1:1≤B.length):∃r:Bool,(zu T).call 278 [.sl true 1 (A.map intV),.sl true 1 (B.map intV)] [] 0 []=some (.bool r,[],0,[]):=by
 obtain⟨r,e⟩:=yzq B hB 1 h1 (B[0]'(by omega));rw[show((1:Nat):Int)=1 from rfl]at e;have d1:decide ((B.length:Int)<1)=false:=decide_eq_false (by omega);have d2:decide (0<(B.length:Int))=true:=decide_eq_true (by omega);have q:B[0]? =some (B[0]'(by omega)):=List.getElem?_eq_getElem _
 have e1:(zu T).call 132 [.sl true 1 (B.map intV)] [] 0 []=some (.int .i64 r,[],0,[]):=by
  rw[ym3];simp -implicitDefEqProofs only[go_sem,simprocAttr,d1,d2,q,e]
 refine⟨r==0,?_⟩;rw[xco];simp -implicitDefEqProofs only[go_sem,simprocAttr,e1]
theorem yzz(A B:List Int)(hA:1≤A.length)(hB:1≤B.length):∃r:Bool,(zu T).call 279 [.sl true 1 (A.map intV),.sl true 1 (B.map intV)] [] 0 []=some (.bool r,[],0,[]):=by
 have d1:decide (0<(A.length:Int))=true:=decide_eq_true (by omega);have d2:decide (0<(B.length:Int))=true:=decide_eq_true (by omega);have q1:A[0]? =some (A[0]'(by omega)):=List.getElem?_eq_getElem _;have q2:B[0]? =some (B[0]'(by omega)):=List.getElem?_eq_getElem _;refine⟨decide ((B[0]'(by omega))<(A[0]'(by omega))),?_⟩;rw[xcn];simp -implicitDefEqProofs only[go_sem,simprocAttr,d1,d2,q1,q2]
theorem yzy(a b:V):(zu T).call 280 [a,b] [] 0 []=some (.bool true,[],0,[]):=by
 rw[xcm];simp -implicitDefEqProofs only[go_sem,simprocAttr]
theorem ymc(n:Int)(h:0≤n∧n≤1200):(zu T).call 138 [.int .i64 n] [] 0 []=some (.int .i64 0,[],0,[]):=by
 have r:=zda h;rw[xd2];simp -implicitDefEqProofs only[go_sem,simprocAttr,zfa,r]
theorem yzp(A:List Int)(hA:A.length<1000)(hb:∀x∈A,0≤x∧x≤1200):∀i,i≤A.length→0<i→
  (zu T).loop false [.code (.loop zjr),.inBlock 0,.code (.seq zl0 .ret)] ⟨137,22,0,[(1,.fn 138 []),(5,.ref 0),(8,.sl true 1 (A.map intV)),(9,.int .i64 A.length),(10,.int .i64 i)],[.cells false true 39 (List.replicate i (.int .i64 0))],0,[]⟩=some (.ret (.sl true 1 (List.replicate A.length (.int .i64 0))),[],0,[]):=by
 refine xq A.length ?_ fun i hi ih=> ?_
 ·intro h0
  rw[zx];have h1:=z8 A.length;simp -implicitDefEqProofs only[go_sem,simprocAttr,h1]
 ·intro h0
  obtain⟨h1,h2,h3,h4,h5⟩:=zl hi (by omega);have e:=ymc A[i] (hb _ (List.getElem_mem hi));have ih:=ih (by omega);have mx:decide (i+1<maxRow)=true:=decide_eq_true (by unfold maxRow;omega);rw[List.replicate_succ']at ih;rw[zx];simp -implicitDefEqProofs only[go_sem,simprocAttr,h1,h2,h3,h4,e,ih,mx,List.length_replicate]
theorem g74(A:List Int)(hA:A.length<1000)(h1:1≤A.length)(hb:∀x∈A,0≤x∧x≤1200):(zu T).call 74 [.sl true 1 (A.map intV)] [] 0 []=some (.int .i64 0,[],0,[]):=by
 have e:=ymc (A[0]'(by omega)) (hb _ (List.getElem_mem _));have ih:=yzp A hA hb 1 h1 (by omega);have q:A[0]? =some (A[0]'(by omega)):=List.getElem?_eq_getElem _;have d1:decide (0<(A.length:Int))=true:=decide_eq_true (by omega);have d2:decide ((0:Int)≤0∧0<(A.length:Int))=true:=decide_eq_true (by omega);have mx:decide (1<maxRow)=true:=by decide
 have w1:IntKind.i64.wrap 1=1:=rfl;rw[show((1:Nat):Int)=1 from rfl]at ih;simp only[List.replicate_one]at ih
 have e1:(zu T).call 137 [.sl true 1 (A.map intV),.fn 138 []] [] 0 []=some (.sl true 1 (List.replicate A.length (.int .i64 0)),[],0,[]):=by
  rw[xd3];simp -implicitDefEqProofs only[go_sem,simprocAttr];rw[zx];simp -implicitDefEqProofs only[go_sem,simprocAttr,q,d1,d2,e,ih,mx,w1]
 have e2:=g71 true (List.replicate A.length 0) (by simp;omega)
 have f0:xj (List.replicate A.length 0)=0:=by
  have:∀n,xj (List.replicate n 0)=0:=fun n=>by induction n with
   |zero=>rfl
   |succ n ih=>rw[List.replicate_succ];simpa[xj]using ih
  exact this _
 rw[List.map_replicate,f0]at e2;rw[xb0];simp -implicitDefEqProofs only[go_sem,simprocAttr,e1,e2]
@[go_sem]theorem globW:T.glob 0=some [.str [115,97,109,101],.fn 275 [],.str [109,111,114,101],.fn 277 [],.str [111,112,101,110],.fn 278 [],.str [100,97,114,107],.fn 279 [],.str [98,121,112,97,115,115,101,100],.fn 280 []]:=by kernel_rfl
def zcu:List V:= [.agg [.str [115,97,109,101],.fn 275 []],.agg [.str [109,111,114,101],.fn 277 []],.agg [.str [111,112,101,110],.fn 278 []],.agg [.str [100,97,114,107],.fn 279 []],.agg [.str [98,121,112,97,115,115,101,100],.fn 280 []]]
theorem zhz(k:V→Prog):ze9 T 5 166 0 k=k (.sl true 2 zcu):=by kernel_rfl
theorem g77(w:List UInt8)(f:Nat)(a b:V)(r:Bool)(hf:T.byref f=false)(e:(zu T).call f [a,b] [] 0 []=some (.bool r,[],0,[]))(x:Nat)(hx:f=x)(hr:x=275∨x=277∨x=278∨x=279∨x=280)(A B:List Int)(ha:a= .sl true 1 (A.map intV))(hb:b= .sl true 1 (B.map intV)):(zu T).call 77 [.agg [.str w,.fn f []],.pp 1 [a] 0 0,.pp 1 [b] 0 0] [] 0 []=some (.bool r,[],0,[]):=by
 subst ha hb hx;rw[xby];rcases hr with rfl|rfl|rfl|rfl|rfl
 ·simp -implicitDefEqProofs only[go_sem,simprocAttr,e]
 ·simp -implicitDefEqProofs only[go_sem,simprocAttr,e]
 ·simp -implicitDefEqProofs only[go_sem,simprocAttr,e]
 ·simp -implicitDefEqProofs only[go_sem,simprocAttr,e]
 ·simp -implicitDefEqProofs only[go_sem,simprocAttr,e]
end Go.Den.FaT
namespace Go.Den.FaT
open Go Go.Proofs Go.Den
variable (A B:List Int) (hAB:A.length=B.length) (hA:A.length≤801) (h1:1≤A.length) (hle:∀i (h:i<B.length),B[i]≤A[i])
include hAB hA h1 hle
theorem g76:∃k:Nat,k≤4∧(k=0↔A=B)∧k≠1∧(zu T).call 76 [.sl true 2 zcu,.fn 77 [.pp 1 [.sl true 1 (A.map intV)] 0 0,.pp 1 [.sl true 1 (B.map intV)] 0 0]] [] 0 []=some (.int .i64 k,[],0,[]):=by
 have c0:=g77 [115,97,109,101] 275 _ _ _ rfl (yz3 A B hAB (by omega)) 275 rfl (by simp) A B rfl rfl;have c1:=g77 [109,111,114,101] 277 _ _ _ rfl (yz1 A B hAB (by omega) hle) 277 rfl (by simp) A B rfl rfl;obtain⟨r2,e2⟩:=yz0 A B (by omega) (by omega);have c2:=g77 [111,112,101,110] 278 _ _ _ rfl e2 278 rfl (by simp) A B rfl rfl;obtain⟨r3,e3⟩:=yzz A B (by omega) (by omega);have c3:=g77 [100,97,114,107] 279 _ _ _ rfl e3 279 rfl (by simp) A B rfl rfl;have c4:=g77 [98,121,112,97,115,115,101,100] 280 _ _ _ rfl (yzy _ _) 280 rfl (by simp) A B rfl rfl;by_cases h:A=B
 ·rw[decide_eq_true h]at c0
  refine⟨0,by omega,⟨fun _=>h,fun _=>rfl⟩,by omega,?_⟩;generalize A.map intV=QA at*;generalize B.map intV=QB at*;rw[zh7];simp -implicitDefEqProofs only[go_sem,simprocAttr,zcu];rw[zx];simp -implicitDefEqProofs only[go_sem,simprocAttr,c0]
 ·rw[decide_eq_false h]at c0
  cases r2
  ·cases r3
   ·refine⟨4,by omega,⟨fun h=>by omega,fun hc=>absurd hc h⟩,by omega,?_⟩
    generalize A.map intV=QA at*;generalize B.map intV=QB at*;rw[zh7];simp -implicitDefEqProofs only[go_sem,simprocAttr,zcu];rw[zx];simp -implicitDefEqProofs only[go_sem,simprocAttr,c0,k7];rw[zx];simp -implicitDefEqProofs only[go_sem,simprocAttr,c1,k6];rw[zx];simp -implicitDefEqProofs only[go_sem,simprocAttr,c2,uw];rw[zx];simp -implicitDefEqProofs only[go_sem,simprocAttr,c3,wm4];rw[zx];simp -implicitDefEqProofs only[go_sem,simprocAttr,c4]
   ·refine⟨3,by omega,⟨fun h=>by omega,fun hc=>absurd hc h⟩,by omega,?_⟩
    generalize A.map intV=QA at*;generalize B.map intV=QB at*;rw[zh7];simp -implicitDefEqProofs only[go_sem,simprocAttr,zcu];rw[zx];simp -implicitDefEqProofs only[go_sem,simprocAttr,c0,k7];rw[zx];simp -implicitDefEqProofs only[go_sem,simprocAttr,c1,k6];rw[zx];simp -implicitDefEqProofs only[go_sem,simprocAttr,c2,uw];rw[zx];simp -implicitDefEqProofs only[go_sem,simprocAttr,c3]
  ·refine⟨2,by omega,⟨fun h=>by omega,fun hc=>absurd hc h⟩,by omega,?_⟩
   generalize A.map intV=QA at*;generalize B.map intV=QB at*;rw[zh7];simp -implicitDefEqProofs only[go_sem,simprocAttr,zcu];rw[zx];simp -implicitDefEqProofs only[go_sem,simprocAttr,c0,k7];rw[zx];simp -implicitDefEqProofs only[go_sem,simprocAttr,c1,k6];rw[zx];simp -implicitDefEqProofs only[go_sem,simprocAttr,c2]
def wdN(k:Nat):List UInt8:=match k with
 |0=> [115,97,109,101]|1=> [109,111,114,101]|2=> [111,112,101,110]|3=> [100,97,114,107]|_=> [98,121,112,97,115,115,101,100]
theorem g23(hbA:∀x∈A,0≤x∧x≤1200)(hbB:∀x∈B,0≤x∧x≤1200):∃k:Nat,k≤4∧(k=0↔A=B)∧k≠1∧(zu T).call 23 [.sl true 1 (A.map intV),.sl true 1 (B.map intV)] [] 0 []=some (.tup [.str (wdN k),.int .i64 0],[],0,[]):=by
 obtain⟨k,k4,kA,k1,e76⟩:=g76 A B hAB hA h1 hle;refine⟨k,k4,kA,k1,?_⟩;have c1:=g74 A (by omega) h1 hbA;have c2:=g74 B (by omega) (by omega) hbB;have c3:=g73 (A.length:Int) 801 (by omega);have f0:xj [0,0,0,0]=0:=rfl;have n1:((B.length:Int) !=(A.length:Int))=false:=by simp[hAB]
 have g4:=g71 true [0,0,0,0] (by simp);rw[f0]at g4;simp only[List.map_cons,List.map_nil]at g4;have hk:k=0∨k=1∨k=2∨k=3∨k=4:=by omega
 rcases hk with rfl|rfl|rfl|rfl|rfl
 ·rw[zh9]
  simp -implicitDefEqProofs only[go_sem,simprocAttr,c1,c2,c3,n1,um,g4,cond_false,zhz,e76];rfl
 ·exact absurd rfl k1
 ·rw[zh9]
  simp -implicitDefEqProofs only[go_sem,simprocAttr,c1,c2,c3,n1,um,g4,cond_false,zhz,e76];rfl
 ·rw[zh9]
  simp -implicitDefEqProofs only[go_sem,simprocAttr,c1,c2,c3,n1,um,g4,cond_false,zhz,e76];rfl
 ·rw[zh9]
  simp -implicitDefEqProofs only[go_sem,simprocAttr,c1,c2,c3,n1,um,g4,cond_false,zhz,e76];rfl
end Go.Den.FaT
namespace Go.Den.FaT
open Go Go.Proofs Go.Den
theorem ytp{x:Gq}(hx:x.ok):zg3 x.pk=z5 x.pk:=by
 have h1:=hx.m1
 have hr:x.pk.v.map zap=x.pk.v:=by
  refine(List.map_congr_left fun r hr=> ?_).trans (List.map_id _);obtain⟨c,_,rfl⟩:=List.mem_map.1 hr;simp[zap,Gq.row]
 have hc:x.pk.c.map jg=x.pk.c:=by
  refine(List.map_congr_left fun c hc=> ?_).trans (List.map_id _);obtain⟨i,_,rfl⟩:=List.mem_map.1 hc;simp[jg,Gq.cz]
 unfold zg3;rw[hr,hc];rfl
theorem g11{x:Gq}(hx:x.ok):(zu T).call 11 [z5 x.pk] [] 0 []=some (z5 x.pk,[],0,[]):=by
 have e:=c88 x.pk (zdt hx);rw[ytp hx,zg1]at e;rw[zg1];generalize ((rwL x 0 x.m).map intV)=q0 at*;generalize ((rwL x 1 x.m).map intV)=q1 at*;generalize ((rwL x 2 x.m).map intV)=q2 at*;generalize ((rwL x 3 x.m).map intV)=q3 at*;generalize ((rwL x 4 x.m).map intV)=q4 at*;generalize ((rwL x 5 x.m).map intV)=q5 at*;generalize ((rwL x 6 x.m).map intV)=q6 at*;generalize ((czL x 0 x.m).map ptV)=p0 at*;generalize ((czL x 1 x.m).map ptV)=p1 at*;generalize ((czL x 2 x.m).map ptV)=p2 at*;have m1:decide (1<maxRow)=true:=by decide
 have m2:decide (2<maxRow)=true:=by decide
 have m3:decide (3<maxRow)=true:=by decide
 rw[xej];simp -implicitDefEqProofs only[go_sem,simprocAttr,e];rw[zx];simp -implicitDefEqProofs only[go_sem,simprocAttr,m1,k7];rw[zx];simp -implicitDefEqProofs only[go_sem,simprocAttr,m2,k6];rw[zx];simp -implicitDefEqProofs only[go_sem,simprocAttr,m3,uw];rw[zx];simp -implicitDefEqProofs only[go_sem,simprocAttr]
variable (bt:Bool) (t:List (Int×Int)) (drop cells l0 l1 l2 tr wide:Int) (bv:Bool) (vs:List Int)
theorem yx1(e7:(zu T).call 7 [qy bt t drop cells l0 l1 l2 tr wide bv vs] [] 0 []=some (.bool false,[],0,[])):(zu T).call 4 [qy bt t drop cells l0 l1 l2 tr wide bv vs] [] 0 []=some (.bool true,[],0,[]):=by
 simp only[qy]at e7⊢;rw[ym1];simp -implicitDefEqProofs only[go_sem,simprocAttr,e7,aw8]
def hG(light:Int)(W:List Int)(V6:V)(sm:Bool)(i:Nat)(R:zj):Option Out:=
 (zu T).loop false [.code (.loop zi1),.inBlock 0,.code (r4_20.seq ((r4_21.seq (.cond (.tmp 175) (r4_22.seq .ret) .skip)).seq (r4_23.seq (r4_24.seq (r4_25.seq ((r4_26.seq (.cond (.tmp 186) (r4_27.seq .ret) .skip)).seq (r4_28.seq (r4_29.seq ((r4_30.seq (.cond (.tmp 216) (r4_31.seq .ret) .skip)).seq (r4_32.seq ((r4_33.seq (.block 2 (.loop zfw))).seq ((r4_39.seq (.cond (.tmp 234) (r4_40.seq .ret) .skip)).seq (r4_41.seq .ret)))))))))))))]
  ⟨4,286,0,[(1,.ptr 0 0 0),(3,.int .i64 light),(4,.sl true 1 (W.map intV)),(6,V6),(7,.bool sm),(66,.int .i64 W.length),(67,.int .i64 i)],.cells true true 28 [qy bt t drop cells l0 l1 l2 tr wide bv vs]::R,0,[]⟩
theorem yx3(light:Int)(hl:(IntKind.i64.wrap l0).tmod 1001=light)(W:List Int)(hW:1≤W.length∧W.length≤801)(r:V)
  (e7:(zu T).call 7 [qy bt t drop cells l0 l1 l2 tr wide bv vs] [] 0 []=some (.bool true,[],0,[]))
  (e20:(zu T).call 20 [qy bt t drop cells l0 l1 l2 tr wide bv vs,.int .i64 1000] [] 0 []=some (.sl true 1 ((zd cells 1000).map intV),[],0,[]))
  (e19:(zu T).call 19 [.sl bt 2 (t.map ptV),.sl true 1 ((zd cells 1000).map intV),.int .i64 drop] [] 0 []=some (j4 t drop (zd cells 1000),[],0,[]))
  (e18:(zu T).call 18 [yc t drop (zd cells 1000)] [] 0 []=some (.tup [.sl true 1 (W.map intV),.int .i64 0],[],0,[]))
  (h:hG bt t drop cells l0 l1 l2 tr wide bv vs light W (.sl false 0 []) true 0 []=some (.ret r,[],0,[])):
  (zu T).call 4 [qy bt t drop cells l0 l1 l2 tr wide bv vs] [] 0 []=some (r,[],0,[]):=by
 have d1:decide ((W.length:Int)<1)=false:=decide_eq_false (by omega);have d2:decide ((W.length:Int)>801)=false:=decide_eq_false (by omega);unfold hG at h;rw[show((0:Nat):Int)=0 from rfl]at h;simp only[qy,yc,j4]at e7 e20 e19 e18 h⊢;rw[ym1];simp -implicitDefEqProofs only[go_sem,simprocAttr,e7,aw8,hl,e20,e19,e18,d1,d2,h]
theorem yzd(light:Int)(W:List Int)(V6:V)(sm:Bool)(i:Nat)(hi:i<W.length)(hW:W.length≤801)(D:List Int)(hD:D.length=i)(R:zj)(hV:(D= []∧V6= .sl false 0 []∧R= [])∨(V6= .ref 1∧R= [.cells false true 3 (D.map intV)]))(n a b:Int)(hn:0≤n∧n≤W[i])(ha:IntKind.i64.wrap ((i:Int)*W[i])=a)(hb:IntKind.i64.wrap ((i:Int)*n)=b)
  (e20f:(zu T).call 20 [qy bt t drop cells l0 l1 l2 tr wide bv vs,.int .i64 1000] [] 0 []=some (.sl true 1 ((zd cells 1000).map intV),[],0,[]))
  (e20d:(zu T).call 20 [qy bt t drop cells l0 l1 l2 tr wide bv vs,.int .i64 light] [] 0 []=some (.sl true 1 ((zd cells light).map intV),[],0,[]))
  (e19d:(zu T).call 19 [.sl bt 2 (t.map ptV),.sl true 1 ((zd cells light).map intV),.int .i64 drop] [] 0 []=some (j4 t drop (zd cells light),[],0,[]))
  (e21d:(zu T).call 21 [yc t drop (zd cells light),.int .i64 i] [] 0 []=some (.tup [.int .i64 n,.int .i64 0],[],0,[]))
  (e22f:(zu T).call 22 [qy bt t drop cells l0 l1 l2 tr wide bv vs,.sl true 1 ((zd cells 1000).map intV),.int .i64 i] [] 0 []=some (.tup [.int .i64 a,.bool true],[],0,[]))
  (e22d:(zu T).call 22 [qy bt t drop cells l0 l1 l2 tr wide bv vs,.sl true 1 ((zd cells light).map intV),.int .i64 i] [] 0 []=some (.tup [.int .i64 b,.bool true],[],0,[])):
  hG bt t drop cells l0 l1 l2 tr wide bv vs light W V6 sm i R=hG bt t drop cells l0 l1 l2 tr wide bv vs light W (.ref 1) (sm&&(n==W[i])) (i+1) [.cells false true 3 ((D++ [n]).map intV)]:=by
 obtain⟨h1,h2,h3,h4,h5⟩:=zl hi (by omega);have d1:decide (n<0)=false:=decide_eq_false (by omega);have d2:decide (n>W[i])=false:=decide_eq_false (by omega);have d2':decide (W[i]<n)=false:=decide_eq_false (by omega);have mx:decide (i+1<maxRow)=true:=decide_eq_true (by unfold maxRow;omega);have mx1:decide (1<maxRow)=true:=by decide
 rw[List.map_append];unfold hG;simp only[qy,yc,j4,List.map_cons,List.map_nil,intV]at e20f e20d e19d e21d e22f e22d⊢;rcases hV with⟨rfl,rfl,rfl⟩|⟨rfl,rfl⟩
 ·rw[zx]
  cases sm
  ·simp -implicitDefEqProofs only[go_sem,simprocAttr,h1,h2,h3,h4,e20f,e20d,e19d,e21d,e22f,e22d,d1,d2,d2',ha,hb,bne_self_eq_false,mx,mx1]
  ·simp -implicitDefEqProofs only[go_sem,simprocAttr,h1,h2,h3,h4,e20f,e20d,e19d,e21d,e22f,e22d,d1,d2,d2',ha,hb,bne_self_eq_false,mx,mx1]
 ·rw[zx]
  cases sm
  ·simp -implicitDefEqProofs only[go_sem,simprocAttr,h1,h2,h3,h4,e20f,e20d,e19d,e21d,e22f,e22d,d1,d2,d2',ha,hb,bne_self_eq_false,mx,mx1,hD]
  ·simp -implicitDefEqProofs only[go_sem,simprocAttr,h1,h2,h3,h4,e20f,e20d,e19d,e21d,e22f,e22d,d1,d2,d2',ha,hb,bne_self_eq_false,mx,mx1,hD]
variable (bt:Bool) (t:List (Int×Int)) (drop cells l0 l1 l2 tr wide:Int) (bv:Bool) (vs:List Int)
def hH(sm:Bool)(x:Gq)(N:List Int)(bP:Bool)(P:List V)(fi:Int)(L:List Int)(i:Nat):Option Out:=
 (zu T).loop false [.code (.loop zfw),.inBlock 2,.code ((r4_39.seq (.cond (.tmp 234) (r4_40.seq .ret) .skip)).seq (r4_41.seq .ret))]
  ⟨4,286,0,[(7,.bool sm),(18,.ptr 0 0 0),(21,.sl true 1 [qe N]),(23,.sl bP 2 P),(25,.int .i64 fi),(218,.sl true 1 (L.map intV)),(219,.int .i64 L.length),(220,.int .i64 i)],[.cells true true 34 [z5 x.pk]],0,[]⟩
theorem yx2(light:Int)(W D:List Int)(hW:W.length≤801)(hW1:1≤W.length)(hD:D.length=W.length)(sm:Bool)(s:List UInt8)(hs1:(s== [115,97,109,101])=sm)(hs2:(s== [109,111,114,101])=false)(x:Gq)(N:List Int)(hN:N.length≤1)(P:List V)(L LA LB:List Int)(r:V)
  (e23:(zu T).call 23 [.sl true 1 (W.map intV),.sl true 1 (D.map intV)] [] 0 []=some (.tup [.str s,.int .i64 0],[],0,[]))
  (e9:(zu T).call 9 [qy bt t drop cells l0 l1 l2 1 0 bv vs] [] 0 []=some (.tup [z5 x.pk,.agg [.sl true 1 (L.map intV),.sl true 1 (LA.map intV),.sl true 1 (LB.map intV)],.bool true],[],0,[]))
  (e11:(zu T).call 11 [z5 x.pk] [] 0 []=some (z5 x.pk,[],0,[]))
  (e12:(zu T).call 12 [z5 x.pk] [] 0 []=some (.tup [.sl true 1 [qe N],.int .i64 0],[],0,[]))
  (e24:(zu T).call 24 [z5 x.pk] [] 0 []=some (.tup [yr 2 P,.int .i64 0],[],0,[]))
  (h:hH sm x N (!P.isEmpty) P (-1) L 0=some (.ret r,[],0,[])):
  hG bt t drop cells l0 l1 l2 tr wide bv vs light W (.ref 1) sm W.length [.cells false true 3 (D.map intV)]=some (.ret r,[],0,[]):=by
 have h1:=z8 W.length;have hE:(W.map intV).isEmpty=false:=by cases W with|nil=>simp at hW1|cons a r=>rfl
 have hE2:(D.map intV).isEmpty=false:=by cases D with|nil=>simp at hD;omega|cons a r=>rfl
 have hi1:zi (W.map intV)= []:=zm4 intV _ fun s=>rfl;have hi2:zi (D.map intV)= []:=zm4 intV _ fun s=>rfl;have m1:decide (W.length<maxRow)=true:=decide_eq_true (by unfold maxRow;omega);have d1:decide ((N.length:Int)>1)=false:=decide_eq_false (by omega);have b1:(sm !=sm)=false:=by cases sm<;>rfl
 unfold hH at h;rw[show((0:Nat):Int)=0 from rfl]at h;simp only[z5,qe,qy]at e9 e11 e12 e24 h;generalize x.pk.v.map rwV=Q1 at*;generalize x.pk.c.map czV=Q2 at*;generalize x.pk.vb=v1 at*;generalize x.pk.cb=v2 at*;generalize x.pk.n=v3 at*;unfold hG;simp only[qy];rw[zx];simp -implicitDefEqProofs only[go_sem,simprocAttr,h1,e23,hs1,hs2,b1,e9,e11,e12,e24,d1,zot,hE,hE2,hi1,hi2,m1,hD,List.isEmpty_nil,List.length_map,h]
def vt:List Int→Nat→Int
 | [],_=> -1
 |n::r,k=>if 0<n then k else vt r (k+1)
variable (sm:Bool) (x:Gq) (N:List Int) (bP:Bool) (P:List V) (L:List Int)
theorem yy9(hL:L.length<100)(fi:Int)(hf:0≤fi):∀i,i≤L.length→hH sm x N bP P fi L i=hH sm x N bP P fi L L.length:=by
 refine xq L.length rfl fun i hi ih=> ?_;rw[←ih];obtain⟨h1,h2,h3,h4,h5⟩:=zl hi (by omega);have d1:decide (fi<0)=false:=decide_eq_false (by omega);unfold hH;simp only[z5,qe];rw[zx];cases hc:decide (L[i]>0)
 ·have hc':decide (0<L[i])=false:=hc
  simp -implicitDefEqProofs only[go_sem,simprocAttr,h1,h2,h3,h4,d1,hc,hc']
 ·have hc':decide (0<L[i])=true:=hc
  simp -implicitDefEqProofs only[go_sem,simprocAttr,h1,h2,h3,h4,d1,hc,hc']
theorem yzc(hL:L.length<100):∀i,i≤L.length→hH sm x N bP P (-1) L i=hH sm x N bP P (vt (L.drop i) i) L L.length:=by
 refine xq L.length ?_ fun i hi ih=> ?_
 ·rw[List.drop_of_length_le (Nat.le_refl _)];rfl
 ·obtain⟨h1,h2,h3,h4,h5⟩:=zl hi (by omega)
  rw[h5];unfold vt;by_cases hp:0<L[i]
  ·rw[if_pos hp]
   have hst:=yy9 sm x N bP P L hL i (by omega) (i+1) (by omega);rw[←hst];have hc:decide (L[i]>0)=true:=decide_eq_true hp;have hc':decide (0<L[i])=true:=decide_eq_true hp;unfold hH;simp only[z5,qe];rw[zx];simp -implicitDefEqProofs only[go_sem,simprocAttr,h1,h2,h3,h4,hc,hc']
  ·rw[if_neg hp,←ih]
   have hc:decide (L[i]>0)=false:=decide_eq_false hp;have hc':decide (0<L[i])=false:=decide_eq_false hp;unfold hH;simp only[z5,qe];rw[zx];simp -implicitDefEqProofs only[go_sem,simprocAttr,h1,h2,h3,h4,hc,hc']
theorem yzb:hH sm x [] false [] (-1) L L.length=some (.ret (.bool true),[],0,[]):=by
 have h1:=z8 L.length;unfold hH;simp only[z5,qe,List.map_nil];rw[zx];simp -implicitDefEqProofs only[go_sem,simprocAttr,h1]
theorem yza(fi:Int)(hf:0≤fi)
  (e11:(zu T).call 11 [z5 x.pk] [] 0 []=some (z5 x.pk,[],0,[]))
  (e26:(zu T).call 26 [z5 x.pk,.int .i64 1,.sl true 2 [.agg [.int .i64 1,.int .i64 fi]]] [] 0 []=some (.int .i64 0,[],0,[])):
  hH false x [0] true [.agg [.int .i64 1,.int .i64 fi]] fi L L.length=some (.ret (.bool true),[],0,[]):=by
 have h1:=z8 L.length;have d1:decide (fi<0)=false:=decide_eq_false (by omega);have e25:=c89 true true [0] [0] (by simp);rw[decide_eq_true rfl]at e25;simp only[List.map_cons,List.map_nil,intV]at e25;have m1:decide (1<maxRow)=true:=by decide
 unfold hH;simp only[z5,qe,List.map_cons,List.map_nil,intV,List.isEmpty_cons,Bool.not_false]at e11 e26⊢;generalize x.pk.v.map rwV=Q1 at*;generalize x.pk.c.map czV=Q2 at*;generalize x.pk.vb=v1 at*;generalize x.pk.cb=v2 at*;generalize x.pk.n=v3 at*;rw[zx];simp -implicitDefEqProofs only[go_sem,simprocAttr,h1,d1,e25,e11,e26,m1,beq_self_eq_true]
theorem ym6(A:Nat→Int)(I:Int):∀n (m:Nat),dsc A I n=m→I≤A m:=by
 intro n
 induction n with
 |zero=>intro m h;unfold dsc at h;omega
 |succ n ih=>
  intro m h;by_cases hlt:A n<I
  ·rw[show dsc A I (n+1)=dsc A I n from if_pos hlt]at h
   exact ih m h
  ·rw[show dsc A I (n+1)=n from if_neg hlt]at h
   have:n=m:=by omega
   subst this;omega
theorem ytm(A:Nat→Int)(n0 I m:Nat)(h:pI A n0 I=m):(I:Int)≤A m:=by
 cases I with
 |zero=>unfold pI at h;exact ym6 A 0 n0 m h
 |succ I=>unfold pI at h;exact ym6 A _ _ m h
theorem yoi{t:List (Int×Int)}(ht:tbOk t){drop:Int}(hd:0≤drop∧drop≤10)(k:Nat):∀ls:List Int,byS t drop ls k≤z7 t*ls.length
 | []=>by simp[byS]
 |l::ls=>by
  have h1:=yoi ht hd k ls;have hb:=zbj ht;have h:=zao (Af (xn t l)) (xn t l).length k;have hl:(xn t l).length=(z7 t).toNat+1:=by simp[xn]
  have hv:kj (Af (xn t l)) (xn t l).length drop k≤z7 t:=by
   unfold kj;split<;>omega
  unfold byS at h1⊢;rw[List.map_cons,List.sum_cons,List.length_cons,Int.natCast_add,Int.mul_add];simp only[Int.natCast_one,Int.mul_one];omega
theorem xfa{t:List (Int×Int)}{drop:Int}{ls:List Int}(h:chOk t drop ls)(v:Nat)(hp:0<crr (byS t drop ls) v):v≤endN t ls:=by
 have hb:=zao (byS t drop ls) 201 v;unfold crr at hp;have h1:=ytm (byS t drop ls) 201 v (pI (byS t drop ls) 201 v).toNat (by omega);have h2:=yoi h.t h.d (pI (byS t drop ls) 201 v).toNat ls;have h3:=zia h;omega
theorem ymf:∀(L:List Int) (k:Nat),(∀n∈L,n≤0)→vt L k= -1
 | [],_,_=>rfl
 |n::r,k,h=>by
  unfold vt;rw[if_neg (by have:=h n (by simp);omega)];exact ymf r (k+1) fun m hm=>h m (List.mem_cons_of_mem _ hm)
theorem yme:∀(L:List Int) (k:Nat),(∃n∈L,0<n)→(k:Int)≤vt L k
 | [],_,h=>by obtain⟨n,hn,_⟩:=h;cases hn
 |n::r,k,h=>by
  unfold vt;by_cases hn:0<n
  ·rw[if_pos hn];omega
  ·rw[if_neg hn]
   have:=yme r (k+1) (by
    obtain⟨m,hm,hm0⟩:=h;rcases List.mem_cons.1 hm with rfl|hm
    ·exact absurd hm0 hn
    ·exact⟨m,hm,hm0⟩)
   omega
theorem bd0(n:Int)(h:0≤n∧n≤900000):ka 0 n (0,0)=decide (0<n):=by
 simp only[ka];rw[jl (by omega),jl (by omega)];by_cases hn:0<n
 ·simp;omega
 ·have:n=0:=by omega
  subst this;rfl
theorem zps:∀(r:List Int) (k:Nat),(∀n∈r,0≤n∧n≤900000)→(∃n∈r,0<n)→∀l:List (Int×Int),l=r.map (fun _=>(0,0))→∃s,rowP 0 1 k r l=((1:Int),vt r k)::s
 | [],k,_,h,_,_=>by obtain⟨n,hn,_⟩:=h;cases hn
 |n::r,k,hb,h,l,hl=>by
  subst hl;rw[List.map_cons];unfold rowP;rw[bd0 n (hb n (by simp))];by_cases hn:0<n
  ·rw[decide_eq_true hn,cond_true]
   unfold vt;rw[if_pos hn];exact⟨_,rfl⟩
  ·rw[decide_eq_false hn,cond_false]
   unfold vt;rw[if_neg hn]
   exact zps r (k+1) (fun m hm=>hb m (List.mem_cons_of_mem _ hm)) (by
    obtain⟨m,hm,hm0⟩:=h;rcases List.mem_cons.1 hm with rfl|hm
    ·exact absurd hm0 hn
    ·exact⟨m,hm,hm0⟩) _ rfl
theorem zpq:∀(r:List Int) (i k:Nat),(∀n∈r,n=0)→∀l:List (Int×Int),l=r.map (fun _=>(0,0))→rowP 0 i k r l= []
 | [],i,k,_,l,hl=>by subst hl;rfl
 |n::r,i,k,hb,l,hl=>by
  subst hl;rw[List.map_cons];unfold rowP;have hn:=hb n (by simp);rw[bd0 n (by omega),hn];exact zpq r i (k+1) (fun m hm=>hb m (List.mem_cons_of_mem _ hm)) _ rfl
theorem fw1:fwr 1 (setsN 3)= [[]]:=by kernel_rfl
theorem fw0:fwr 0 (setsN 3)= []:=by kernel_rfl
theorem yqg{x:Gq}(hx:x.ok)(ht:x.tr 0=true)(he:∃n∈vf x 0 x.m,0<n):∃s,vg x.pk []=((1:Int),vt (vf x 0 x.m) 0)::s:=by
 have hl:∀i,ux x.pk [] i=(List.range x.m).map fun _=>((0:Int),(0:Int)):=by
  intro i;unfold ux;rw[zbw];apply List.map_congr_left;intro j hj;rw[zhh hx [] (by simp) (by simp) i j (by simpa using hj)];rw[if_neg (by simp)]
 have h0:((List.range x.m).map fun j=>x.rs 0 j)=(List.range x.m).map fun _=>(0:Int):=by
  apply List.map_congr_left;intro j _;unfold Gq.rs;rw[if_neg (by simp)]
 have h1:((List.range x.m).map fun j=>x.rs 1 j)=vf x 0 x.m:=by
  unfold vf;apply List.map_congr_left;intro j _;unfold Gq.rs;rw[if_pos ⟨rfl,ht⟩]
 have hr:vg x.pk []=rowP 0 0 0 ((List.range x.m).map fun j=>x.rs 0 j) (ux x.pk [] 0)++(rowP 0 1 0 ((List.range x.m).map fun j=>x.rs 1 j) (ux x.pk [] 1)++allP 0 2 ((jq x.pk).map (·.2)|>.drop 2) ((ya x.pk []).drop 2)):=by
  unfold vg;rw[zkx hx];rfl
 rw[hr,h0,h1,hl,hl,zpq _ 0 0 (by simp) _ (by rw[List.map_map];rfl)]
 have hb:∀n∈vf x 0 x.m,0≤n∧n≤900000:=by
  intro n hn;obtain⟨j,_,rfl⟩:=List.mem_map.1 hn;have:=zbh hx 0 j;omega
 obtain⟨s,hs⟩:=zps (vf x 0 x.m) 0 hb he _ rfl;have hm:((List.range x.m).map fun _=>((0:Int),(0:Int)))=(vf x 0 x.m).map fun _=>(0,0):=by unfold vf;rw[List.map_map];rfl
 rw[hm,hs];exact⟨_,rfl⟩
theorem xil:xk 1 0=1∧xk 1 1=0∧xk 1 2=0:=by decide
theorem wdS(k:Nat)(h:k≤4)(h1:k≠1):(wdN k== [115,97,109,101])=decide (k=0)∧(wdN k== [109,111,114,101])=false:=by
 have hk:k=0∨k=2∨k=3∨k=4:=by omega
 rcases hk with rfl|rfl|rfl|rfl<;>exact⟨rfl,rfl⟩
end Go.Den.FaT
namespace Go.Den.FaT
open Go Go.Proofs Go.Den
variable (bt:Bool) (t:List (Int×Int)) (drop cells l0 l1 l2 tr wide:Int) (bv:Bool) (vs:List Int)
variable (ht:tbOk t) (hd:0≤drop∧drop≤10) (hc:0≤cells∧cells≤255) (hl0:0≤l0∧l0≤65535) (hl1:0≤l1∧l1≤65535) (hl2:0≤l2∧l2≤65535) (h1:1≤vs.length) (h3:vs.length≤3) (hv:∀x∈vs,0≤x∧x≤65535)
def smC(f g:Nat→Int)(n:Nat):Bool:=(List.range n).all fun k=>g k==f k
theorem zpd(f g:Nat→Int)(n:Nat):smC f g (n+1)=(smC f g n&&(g n==f n)):=by
 unfold smC;rw[List.range_succ,List.all_append];simp
theorem zpe(f g:Nat→Int)(n:Nat):smC f g n=decide ((List.range n).map f=(List.range n).map g):=by
 rw[Bool.eq_iff_iff,decide_eq_true_iff];unfold smC;rw[List.all_eq_true,List.map_inj_left];constructor
 ·intro h a ha;exact(eq_of_beq (h a ha)).symm
 ·intro h a ha;rw[h a ha];exact beq_self_eq_true _
include ht hd hc hl0 hl1 hl2 h1 h3 hv
theorem wrC(w:List Int)(i:Nat)(hi:i≤300)(a:Int)(ha:0≤a∧a≤200):IntKind.i64.wrap ((i:Int)*a)=(i:Int)*a:=by
 have h2:(0:Int)≤(i:Int)*a:=Int.mul_nonneg (by omega) ha.1;have h3:(i:Int)*a≤300*200:=Int.mul_le_mul (by omega) ha.2 ha.1 (by omega);exact wrap64 (by omega) (by omega)
theorem xe6(N:Nat)(hN:N=endN t (zd cells 1000))(F G:Nat→Int)(eF:F=crr (byS t drop (zd cells 1000)))(eG:G=crr (byS t drop (zd cells (q8 l0 l1 l2 0))))(i:Nat)(hi:1≤i)(hi2:i≤N+1):
  hG bt t drop cells l0 l1 l2 tr wide bv vs (q8 l0 l1 l2 0) (crvL t drop (zd cells 1000) N) (.sl false 0 []) true 0 []=hG bt t drop cells l0 l1 l2 tr wide bv vs (q8 l0 l1 l2 0) (crvL t drop (zd cells 1000) N) (.ref 1) (smC F G i) i [.cells false true 3 (((List.range i).map G).map intV)]:=by
 have cF:chOk t drop (zd cells 1000):=zdr ht hd (by omega);have cD:chOk t drop (zd cells (q8 l0 l1 l2 0)):=zdr ht hd (ze4 l0 l1 l2 0);have hN3:N≤300:=by rw[hN];exact(zia cF).1
 have hlen:(crvL t drop (zd cells 1000) N).length=N+1:=zfk N;have e20f:=uc bt t drop cells l0 l1 l2 tr wide bv vs hc 1000;have e20d:=uc bt t drop cells l0 l1 l2 tr wide bv vs hc (q8 l0 l1 l2 0);have e19d:=g19 bt t ht drop (zd cells (q8 l0 l1 l2 0)) cD.l1 cD.l3
 have step:∀(k:Nat) (hk:k<N+1) (V6:V) (sm:Bool) (R:zj),((List.range k).map G= []∧V6= .sl false 0 []∧R= [])∨(V6= .ref 1∧R= [.cells false true 3 (((List.range k).map G).map intV)])→
   hG bt t drop cells l0 l1 l2 tr wide bv vs (q8 l0 l1 l2 0) (crvL t drop (zd cells 1000) N) V6 sm k R=hG bt t drop cells l0 l1 l2 tr wide bv vs (q8 l0 l1 l2 0) (crvL t drop (zd cells 1000) N) (.ref 1) (sm&&(G k==F k)) (k+1) [.cells false true 3 (((List.range (k+1)).map G).map intV)]:=by
  intro k hk V6 sm R hV;have hW:(crvL t drop (zd cells 1000) N)[k]'(by rw[hlen];exact hk)=F k:=by simp[crvL,eF]
  have hb:=zdz (byS t drop (zd cells 1000)) k;have hbd:=zdz (byS t drop (zd cells (q8 l0 l1 l2 0))) k;have hm:=znr (zoc ht hd.1 cells (ze4 l0 l1 l2 0)) k;have e21d:=g21 cD k (by omega);have e22f:=g22 bt t drop cells l0 l1 l2 tr wide bv vs _ cF k (by omega);have e22d:=g22 bt t drop cells l0 l1 l2 tr wide bv vs _ cD k (by omega)
  have h:=yzd bt t drop cells l0 l1 l2 tr wide bv vs (q8 l0 l1 l2 0) (crvL t drop (zd cells 1000) N) V6 sm k (by rw[hlen];exact hk) (by rw[hlen];omega) ((List.range k).map G) (by simp) R hV (G k) (jj t drop (zd cells 1000) k) (jj t drop (zd cells (q8 l0 l1 l2 0)) k)
   (by rw[hW,eF,eG];omega)
   (by rw[hW,eF];exact wrC t drop cells l0 l1 l2 vs ht hd hc hl0 hl1 hl2 h1 h3 hv [] k (by omega) _ hb)
   (by rw[eG];exact wrC t drop cells l0 l1 l2 vs ht hd hc hl0 hl1 hl2 h1 h3 hv [] k (by omega) _ hbd)
   e20f e20d e19d (by rw[eG];exact e21d) e22f e22d
  rw[hW]at h;rw[List.range_succ,List.map_append];exact h
 induction i with
 |zero=>omega
 |succ k ih=>
  by_cases hk:k=0
  ·subst hk
   rw[zpd];exact step 0 (by omega) _ _ _ (.inl ⟨rfl,rfl,rfl⟩)
  ·rw[ih (by omega) (by omega),zpd]
   exact step k (by omega) _ _ _ (.inr ⟨rfl,rfl⟩)
theorem ndx(x:Gq)(hx:uh t drop cells l0 l1 l2 1 0 vs=x):nd x=(if∃n∈vf x 0 x.m,0<n then [0]else [])∧x.tr 0=true:=by
 have hok:x.ok:=by rw[←hx];exact zdi ht hd cells l0 l1 l2 1 0 h1 h3
 obtain⟨b0,b1,b2⟩:=xil;have t0:x.tr 0=true:=by rw[←hx];show(xk 1 0==1)=true;rw[b0];rfl
 have t1:x.tr 1=false:=by rw[←hx];show(xk 1 1==1)=false;rw[b1];rfl
 have t2:x.tr 2=false:=by rw[←hx];show(xk 1 2==1)=false;rw[b2];rfl
 refine⟨?_,t0⟩;rw[zmo hok];have n1:yn x 1=false:=by unfold yn;rw[t1];rfl
 have n2:yn x 2=false:=by unfold yn;rw[t2];rfl
 have n0:yn x 0=decide (∃n∈vf x 0 x.m,0<n):=by
  rw[Bool.eq_iff_iff,decide_eq_true_iff,zg9];constructor
  ·rintro⟨_,j,hj,hp⟩
   exact⟨x.lo 0 j,List.mem_map.2 ⟨j,by simpa using hj,rfl⟩,hp⟩
  ·rintro⟨n,hn,hp⟩
   obtain⟨j,hj,rfl⟩:=List.mem_map.1 hn;exact⟨t0,j,by simpa using hj,hp⟩
 rw[n0,n1,n2];by_cases h:∃n∈vf x 0 x.m,0<n
 ·rw[decide_eq_true h,if_pos h];rfl
 ·rw[decide_eq_false h,if_neg h];rfl
end Go.Den.FaT
namespace Go.Den.FaT
open Go Go.Proofs Go.Den
variable (bt:Bool) (t:List (Int×Int)) (drop cells l0 l1 l2 tr wide:Int) (bv:Bool) (vs:List Int)
theorem yxa(x:Gq)(h:∃n∈vf x 0 x.m,0<n):∃j,j<x.m∧0<x.lo 0 j:=by
 obtain⟨n,hn,hp⟩:=h;obtain⟨j,hj,rfl⟩:=List.mem_map.1 hn;exact⟨j,by simpa using hj,hp⟩
theorem yra(ht:tbOk t)(hd:0≤drop∧drop≤10)(hc:0≤cells∧cells≤255)(x:Gq)(hx:uh t drop cells l0 l1 l2 1 0 vs=x)(h:∃n∈vf x 0 x.m,0<n):
  smC (crr (byS t drop (zd cells 1000))) (crr (byS t drop (zd cells (q8 l0 l1 l2 0)))) (endN t (zd cells 1000)+1)=false:=by
 obtain⟨j,hj,hp⟩:=yxa x h;subst hx;have cF:chOk t drop (zd cells 1000):=zdr ht hd (by omega)
 have hp2:(volt vs j:Int)*crr (byS t drop (zd cells (q8 l0 l1 l2 0))) (volt vs j)<(volt vs j:Int)*crr (byS t drop (zd cells 1000)) (volt vs j):=by
  have:0<jj t drop (zd cells 1000) (volt vs j)- jj t drop (zd cells (q8 l0 l1 l2 0)) (volt vs j):=hp;unfold jj at this;omega
 have hb:=zdz (byS t drop (zd cells (q8 l0 l1 l2 0))) (volt vs j)
 have hlt:crr (byS t drop (zd cells (q8 l0 l1 l2 0))) (volt vs j)<crr (byS t drop (zd cells 1000)) (volt vs j):=by
  rcases Int.lt_or_le (crr (byS t drop (zd cells (q8 l0 l1 l2 0))) (volt vs j)) (crr (byS t drop (zd cells 1000)) (volt vs j))with h|h
  ·exact h
  ·have:=Int.mul_le_mul_of_nonneg_left h (Int.natCast_nonneg (volt vs j))
   omega
 have hv:=xfa cF (volt vs j) (by omega);rw[zpe];apply decide_eq_false;rw[List.map_inj_left];intro hall;have:=hall (volt vs j) (by rw[List.mem_range];omega);omega
variable (ht:tbOk t) (hd:0≤drop∧drop≤10) (hc:0≤cells∧cells≤255) (hl0:0≤l0∧l0≤65535) (hl1:0≤l1∧l1≤65535) (hl2:0≤l2∧l2≤65535) (h1:1≤vs.length) (h3:vs.length≤3) (hv:∀x∈vs,0≤x∧x≤65535)
include ht hd hc hl0 hl1 hl2 h1 h3 hv
theorem yqn(x:Gq)(hx:uh t drop cells l0 l1 l2 1 0 vs=x)(sm:Bool)(hsm:(∃n∈vf x 0 x.m,0<n)→sm=false):
  hH sm x (nd x) (!((prf x).map ptV).isEmpty) ((prf x).map ptV) (-1) (vf x 0 x.m) 0=some (.ret (.bool true),[],0,[]):=by
 have hok:x.ok:=by rw[←hx];exact zdi ht hd cells l0 l1 l2 1 0 h1 h3
 obtain⟨hnd,t0⟩:=ndx t drop cells l0 l1 l2 vs ht hd hc hl0 hl1 hl2 h1 h3 hv x hx;have hm3:=hok.m3;have hL:(vf x 0 x.m).length<100:=by rw[js];omega
 have hgo:=yzc sm x (nd x) (!((prf x).map ptV).isEmpty) ((prf x).map ptV) (vf x 0 x.m) hL 0 (by omega);rw[hgo,List.drop_zero];by_cases he:∃n∈vf x 0 x.m,0<n
 ·rw[if_pos he]at hnd
  obtain⟨s,hs⟩:=yqg hok t0 he
  have hp:prf x= [((1:Int),vt (vf x 0 x.m) 0)]:=by
   unfold prf;rw[hnd];show(fwr 1 (setsN 3)).map (hdQ x.pk)=_;rw[fw1];show [hdQ x.pk []]=_;unfold hdQ;rw[hs];rfl
  have hf:=yme (vf x 0 x.m) 0 he;have e26:=xf1 hok;rw[hnd,hp]at e26;rw[hnd,hp,hsm he];exact yza x (vf x 0 x.m) (vt (vf x 0 x.m) 0) (by omega) (g11 hok) e26
 ·rw[if_neg he]at hnd
  have hp:prf x= []:=by
   unfold prf;rw[hnd];show(fwr 0 (setsN 3)).map (hdQ x.pk)=_;rw[fw0];rfl
  rw[hnd,hp,ymf (vf x 0 x.m) 0 (fun n hn=>by
   rcases Int.lt_or_le 0 n with h|h
   ·exact absurd ⟨n,hn,h⟩ he
   ·exact h)]
  exact yzb sm x (vf x 0 x.m)
theorem xgl(e7:(zu T).call 7 [qy bt t drop cells l0 l1 l2 tr wide bv vs] [] 0 []=some (.bool true,[],0,[])):(zu T).call 4 [qy bt t drop cells l0 l1 l2 tr wide bv vs] [] 0 []=some (.bool true,[],0,[]):=by
 have cF:chOk t drop (zd cells 1000):=zdr ht hd (by omega);have hN3:=zia cF;have e20:=uc bt t drop cells l0 l1 l2 tr wide bv vs hc 1000;have e19:=g19 bt t ht drop (zd cells 1000) cF.l1 cF.l3;have e18:=g18 cF;have hWl:(crvL t drop (zd cells 1000) (endN t (zd cells 1000))).length=endN t (zd cells 1000)+1:=zfk _;have hDl:(crvL t drop (zd cells (q8 l0 l1 l2 0)) (endN t (zd cells 1000))).length=endN t (zd cells 1000)+1:=zfk _
 have hl:(IntKind.i64.wrap l0).tmod 1001=q8 l0 l1 l2 0:=by
  rw[wrap64 (by omega) (by omega)];unfold q8;exact Int.tmod_eq_emod_of_nonneg (by omega)
 refine yx3 bt t drop cells l0 l1 l2 tr wide bv vs (q8 l0 l1 l2 0) hl _ (by rw[hWl];omega) _ e7 e20 e19 e18 ?_;have hcur:=xe6 bt t drop cells l0 l1 l2 tr wide bv vs ht hd hc hl0 hl1 hl2 h1 h3 hv _ rfl _ _ rfl rfl (endN t (zd cells 1000)+1) (by omega) (Nat.le_refl _);refine hcur.trans ?_
 obtain⟨k,k4,k0,k1,e23⟩:=g23 (crvL t drop (zd cells 1000) (endN t (zd cells 1000))) (crvL t drop (zd cells (q8 l0 l1 l2 0)) (endN t (zd cells 1000))) (by rw[hWl,hDl]) (by rw[hWl];omega) (by rw[hWl];omega)
  (by
   intro i h;have hm:=znr (zoc ht hd.1 cells (ze4 l0 l1 l2 0)) i;simpa[crvL]using hm)
  (fun x hx=>by have:=znq _ x hx;omega) (fun x hx=>by have:=znq _ x hx;omega)
 obtain⟨w1,w2⟩:=wdS k k4 k1;have hok:=zdi ht hd cells l0 l1 l2 1 0 h1 h3;have e9:=g9 bt t drop cells l0 l1 l2 1 0 bv vs ht hd hc hl0 hl1 hl2 (by omega) h1 h3 hv _ rfl
 have hnl:(nd (uh t drop cells l0 l1 l2 1 0 vs)).length≤1:=by
  rw[(ndx t drop cells l0 l1 l2 vs ht hd hc hl0 hl1 hl2 h1 h3 hv _ rfl).1];split<;>simp
 have h:=yx2 bt t drop cells l0 l1 l2 tr wide bv vs (q8 l0 l1 l2 0) _ _ (by rw[hWl];omega) (by rw[hWl];omega) (by rw[hWl,hDl]) (smC (crr (byS t drop (zd cells 1000))) (crr (byS t drop (zd cells (q8 l0 l1 l2 0)))) (endN t (zd cells 1000)+1)) _
  (by
   rw[w1,zpe,Bool.eq_iff_iff,decide_eq_true_iff,decide_eq_true_iff];exact k0)
  w2 _ (nd (uh t drop cells l0 l1 l2 1 0 vs)) hnl _ _ _ _ (.bool true) e23 e9 (g11 hok) (yxy hok) (ys9 hok)
  (yqn t drop cells l0 l1 l2 vs ht hd hc hl0 hl1 hl2 h1 h3 hv _ rfl _ (yra t drop cells l0 l1 l2 vs ht hd hc _ rfl))
 rw[hWl]at h;exact h
omit ht hd h1 h3 in
theorem c4:(zu T).call 4 [qy bt t drop cells l0 l1 l2 tr wide bv vs] [] 0 []=some (.bool true,[],0,[]):=by
 obtain⟨r,hr,e7⟩:=g7 bt t drop cells l0 l1 l2 tr wide bv vs;cases r
 ·exact yx1 bt t drop cells l0 l1 l2 tr wide bv vs e7
 ·obtain⟨ht,hd,h1,h3⟩:=hr rfl
  exact xgl bt t drop cells l0 l1 l2 tr wide bv vs ht hd hc hl0 hl1 hl2 h1 h3 hv e7
end Go.Den.FaT
namespace Go.Proofs.YtjiidembdmfikaaGreatDoor
open Go Go.Proofs Go.Den Go.Den.FaT Go.ChangeShapes Go.WideShapes Go.ChangeAt Go.RowKit
def w16(a:Int):V:= .int .u16 a
theorem cl3{n:Nat}{us:List V}(h:Cl Tryz.prog n 3 us):∃a:Int,us= [.int .i64 a]:=by
 cases n with
 |zero=>cases h
 |succ n=>
  unfold Cl at h;rw[Tryz.underlying3]at h;obtain⟨i,rfl,hw⟩:=h;exact⟨i,rfl⟩
theorem cl5{n:Nat}{us:List V}(h:Cl Tryz.prog n 5 us):∃a:Int,us= [.int .u8 a]∧0≤a∧a≤255:=by
 cases n with
 |zero=>cases h
 |succ n=>
  unfold Cl at h;rw[Tryz.underlying5]at h;obtain⟨i,rfl,hw⟩:=h;have h3:0≤i∧i≤255:=by simpa[Lit.wf,IntKind.min,IntKind.max,IntKind.signed,IntKind.bits]using hw
  exact⟨i,rfl,h3⟩
theorem zii{n:Nat}{us:List V}(h:Cl Tryz.prog n 24 us):∃a:Int,us= [w16 a]∧0≤a∧a≤65535:=by
 cases n with
 |zero=>cases h
 |succ n=>
  unfold Cl at h;rw[Tryz.underlying24]at h;obtain⟨i,rfl,hw⟩:=h;have h3:0≤i∧i≤65535:=by simpa[Lit.wf,IntKind.min,IntKind.max,IntKind.signed,IntKind.bits]using hw
  exact⟨i,rfl,h3⟩
theorem xfr{n:Nat}{us:List V}(h:Cl Tryz.prog n 76 us):∃a b:Int,us= [.int .i64 a,.int .i64 b]:=by
 cases n with
 |zero=>cases h
 |succ n=>
  unfold Cl at h;rw[Tryz.underlying76]at h;obtain⟨ps,rfl,hl,hp⟩:=h
  match ps,hl with
  | [p,q],_=>
   obtain⟨a,rfl⟩:=cl3 (hp 0 _ p rfl rfl);obtain⟨b,rfl⟩:=cl3 (hp 1 _ q rfl rfl);exact⟨a,b,rfl⟩
theorem yu9(v:V):mk Tryz.prog 24 [v]=v:=by unfold mk;rw[Tryz.underlying24];rfl
theorem yu7(us:List V):mk Tryz.prog 76 us= .agg us:=by unfold mk;rw[Tryz.underlying76]
theorem yu8(us:List V):mk Tryz.prog 28 us= .agg us:=by unfold mk;rw[Tryz.underlying28]
theorem zo3{n:Nat}:∀{l:List V},(∀u∈l,∃us,Cl Tryz.prog n 24 us∧u=mk Tryz.prog 24 us)→∃ps:List Int,l=ps.map w16∧∀p∈ps,0≤p∧p≤65535
 | [],_=>⟨[],rfl,fun p h=>by cases h⟩
 |u::l,h=>by
  obtain⟨ps,rfl,hps⟩:=zo3 (l:=l) fun v hv=>h v (List.mem_cons_of_mem _ hv);obtain⟨us,h1,rfl⟩:=h u (List.mem_cons_self);obtain⟨a,rfl,ha⟩:=zii h1;refine⟨a::ps,by rw[yu9];rfl,fun r hr=> ?_⟩;rcases List.mem_cons.1 hr with rfl|hr
  ·exact ha
  ·exact hps r hr
theorem points{n:Nat}:∀{l:List V},(∀u∈l,∃us,Cl Tryz.prog n 76 us∧u=mk Tryz.prog 76 us)→∃ps:List (Int×Int),l=ps.map ptV
 | [],_=>⟨[],rfl⟩
 |u::l,h=>by
  obtain⟨ps,rfl⟩:=points (l:=l) fun v hv=>h v (List.mem_cons_of_mem _ hv);obtain⟨us,h1,rfl⟩:=h u (List.mem_cons_self);obtain⟨a,b,rfl⟩:=xfr h1;exact⟨(a,b)::ps,by rw[yu7];rfl⟩
theorem xfu{n:Nat}{us:List V}(h:Cl Tryz.prog n 26 us):∃b,∃ps:List Int,us= [.sl b 1 (ps.map w16)]∧∀p∈ps,0≤p∧p≤65535:=by
 cases n with
 |zero=>cases h
 |succ n=>
  unfold Cl at h;rw[Tryz.underlying26]at h;obtain⟨b,l,rfl,_,_,hl⟩:=h;obtain⟨ps,rfl,hps⟩:=zo3 hl;have:Tryz.prog.cellsOf 24=1:=by kernel_rfl
  exact⟨b,ps,by rw[this],hps⟩
theorem xfw{n:Nat}{us:List V}(h:Cl Tryz.prog n 23 us):∃b,∃ps:List (Int×Int),us= [.sl b 2 (ps.map ptV)]:=by
 cases n with
 |zero=>cases h
 |succ n=>
  unfold Cl at h;rw[Tryz.underlying23]at h;obtain⟨b,l,rfl,_,_,hl⟩:=h;obtain⟨ps,rfl⟩:=points hl;have:Tryz.prog.cellsOf 76=2:=by kernel_rfl
  exact⟨b,ps,by rw[this]⟩
theorem xfv{n:Nat}{us:List V}(h:Cl Tryz.prog n 25 us):∃a b c:Int,us= [w16 a,w16 b,w16 c]∧(0≤a∧a≤65535)∧(0≤b∧b≤65535)∧0≤c∧c≤65535:=by
 cases n with
 |zero=>cases h
 |succ n=>
  unfold Cl at h;rw[Tryz.underlying25]at h;obtain⟨ps,rfl,hl,hp⟩:=h
  match ps,hl with
  | [p,q,r],_=>
   obtain⟨x,rfl,hx⟩:=zii (hp p (by simp));obtain⟨y,rfl,hy⟩:=zii (hp q (by simp));obtain⟨z,rfl,hz⟩:=zii (hp r (by simp));exact⟨x,y,z,rfl,hx,hy,hz⟩
theorem xft{n:Nat}{us:List V}(h:Cl Tryz.prog n 28 us):∃bt t drop cells l0 l1 l2 tr wide bv vs,mk Tryz.prog 28 us=qy bt t drop cells l0 l1 l2 tr wide bv vs∧(0≤cells∧cells≤255)∧(0≤l0∧l0≤65535)∧(0≤l1∧l1≤65535)∧(0≤l2∧l2≤65535)∧(0≤tr∧tr≤255)∧(0≤wide∧wide≤255)∧∀x∈vs,0≤x∧x≤65535:=by
 rw[yu8];cases n with
 |zero=>cases h
 |succ n=>
  unfold Cl at h;rw[Tryz.underlying28]at h;obtain⟨ps,rfl,hl,hp⟩:=h
  match ps,hl with
  | [p,q,r,s,t,u,v],_=>
   obtain⟨bt,tb,rfl⟩:=xfw (hp 0 _ p rfl rfl);obtain⟨drop,rfl⟩:=cl3 (hp 1 _ q rfl rfl);obtain⟨cells,rfl,hc⟩:=cl5 (hp 2 _ r rfl rfl);obtain⟨l0,l1,l2,rfl,k0,k1,k2⟩:=xfv (hp 3 _ s rfl rfl);obtain⟨tr,rfl,htr⟩:=cl5 (hp 4 _ t rfl rfl);obtain⟨wide,rfl,hw⟩:=cl5 (hp 5 _ u rfl rfl);obtain⟨bv,vs,rfl,hv⟩:=xfu (hp 6 _ v rfl rfl);exact⟨bt,tb,drop,cells,l0,l1,l2,tr,wide,bv,vs,rfl,hc,k0,k1,k2,htr,hw,hv⟩
theorem xfs{n:Nat}{us:List V}(h:Cl Tryz.prog n 28 us):(zu T).call 4 [mk Tryz.prog 28 us] [] 0 []=some (.bool true,[],0,[]):=by
 obtain⟨bt,t,drop,cells,l0,l1,l2,tr,wide,bv,vs,e,hc,k0,k1,k2,_,_,hv⟩:=xft h;rw[e];exact c4 bt t drop cells l0 l1 l2 tr wide bv vs hc k0 k1 k2 hv
theorem yx0{al:List V}(h:al.length=1∧∀(i:Nat) t a,[28][i]? =some t→al[i]? =some a→∃us,Cl Tryz.prog 12 t us∧a=mk Tryz.prog t us):(zu T).call 4 al [] 0 []=some (.bool true,[],0,[]):=by
 obtain⟨hl,h⟩:=h
 match al,hl with
 | [a],_=>
  obtain⟨us,h1,rfl⟩:=h 0 28 a rfl rfl;exact xfs h1
theorem yxg(os:Os)(started:os.Started)(H:Type)(enc:TypeId×Value→H):
  ReturnsInHanded {} Tryz.checked os 4 .any (fun w args=>(Rows.topGlandShapesSpec.pre enc Tryz.prog Tryz.f4 [] false w args∧laidMetH Tryz.prog zb3 w)∧sizedMet enc Tryz.prog Tryz.f4 (OpenSpec.ofChange Rows.topGlandShapesSpec) false w args)
   (Rows.topGlandShapesSpec.post enc Tryz.prog Tryz.f4 false true false false):=by
 refine returnsInHanded_of_change_and (C:=Tryz.checked) (X:=fun w _=>laidMetH Tryz.prog zb3 w) (fun _ _ _ hh h=>h.of_heap hh) own started (by kernel_rfl) Tryz.func4
  (ChangeSpec.witness_shaped (enc:=enc) (C:=Tryz.checked) (os:=os) (X:=fun w _=>laidMetH Tryz.prog zb3 w) false (World.doorLaid Tryz.prog 4000 os) #[.agg #[.slice none 0 0,.int .i64 0,.int .u8 0,.int .u16 0,.int .u16 0,.int .u16 0,.int .u8 0,.int .u8 0,.slice none 0 0]] 8 rfl (World.shaped_of_RefB (by kernel_rfl) (by kernel_rfl)) (by kernel_rfl) (by kernel_rfl) (by kernel_rfl) (xeq os _)) ?_
 intro W base args ds gs before hval0 hW _ _ hL _;have hval:∀(j:Nat) t v,Tryz.f4.params[j]? =some t→args[j]? =some v→Value.okWide Tryz.prog W .any base t v:=hval0;have hW':=hW;obtain⟨p,q,hA0,hV,rfl,hfz,hnd⟩:=hW;have hA:DataW.TrodAll enc Tryz.prog W 0 (fun _=>true) true Tryz.f4.params.toList args.toList ds p:=hA0;have hV:DataW.TrodVars enc Tryz.prog W (fun _=>true) [] gs q:=hV;obtain⟨rfl,rfl⟩:=trodVars_none hV;rw[Tryz.params4]at hA hval;obtain⟨al,r1,r2,r3⟩:=yor (n:=12) (by kernel_rfl) hA (fun j t v h1 h2=>hval j t v (by simpa using h1) (by simpa using h2));refine(xf9 sound (by kernel_rfl) (yx0 ⟨r2,r3⟩) r1 (yus hL)).mono ?_;rintro e W' ⟨rfl,hs,hk,ho⟩;refine⟨_,rfl,yxz (tb:=4) rfl rfl Tryz.underlying4 ?_ laidOut (by kernel_rfl) hW' hs hk ho⟩;obtain⟨v0,d0,_,rfl,_⟩:=trodAll_one hA;rfl
end Go.Proofs.YtjiidembdmfikaaGreatDoor
end
