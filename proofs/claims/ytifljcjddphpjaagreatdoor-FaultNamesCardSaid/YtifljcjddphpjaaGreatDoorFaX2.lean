import Derived.Test.YtifljcjddphpjaaGreatDoorFaX1
import Derived.Test.YtifljcjddphpjaaGreatDoorFaS0
import Derived.Test.YtifljcjddphpjaaGreatDoorZR
set_option linter.all false
set_option maxHeartbeats 8000000
set_option maxRecDepth 100000
namespace Go.Den.FaT
open Go Go.Proofs Go.Den
theorem gA{B L:zw}{N:Nat}(h:B.length=N):(B++L)[N]? =L[0]? :=by subst h;rw[List.getElem?_append_right (Nat.le_refl _),Nat.sub_self]
theorem gj{B L:zw}{N:Nat}(h:B.length=N):(B++L)[N+1]? =L[1]? :=by subst h;rw[List.getElem?_append_right (by omega)];congr 1;omega
theorem sA{B L:zw}{N:Nat}{r:Row}(h:B.length=N):(B++L).set N r=B++L.set 0 r:=by subst h;rw[List.set_append_right _ _ (Nat.le_refl _),Nat.sub_self]
theorem yvr(env:Den.Env)(he:xf env 2= .ptr 0 0 0)(H:zw)(m:Nat)(l:List (Int×Int))(x:Int×Int)(S:xc)(fl:Bool)(h0:H[0]? =some (.cells true fl 48 [.ref m]))(hm:H[m]? =some (.cells false true 100 (l.map q7)))(hm0:0<m)(hll:l.length<1000)(N:Nat)(hN:H.length=N)(hmN:m<N):
  runK (zy T) T true qg [.code zc9,.beginRound,.code zc5] ⟨196,13,N,(7,q7 x)::env,H,0,S⟩=
   some (.round none,(H.set m .dead).set 0 (.cells true false 48 [.ref (N+2)])++ [.cells true true 100 [q7 x],.cells false true 100 [q7 x],.cells false true 100 ((l++ [x]).map q7)],0,S):=by
 have h8:=(ze (n:=l.length) (by omega)).1;have n0:0<N:=by omega
 have d1:decide (N<N+1)=true:=by simp
 have d2:decide (m<N+2)=true:=decide_eq_true (by omega);have d3:decide (0<N+3)=true:=by simp
 have hd0:(H.set m .dead)[0]? =some (.cells true fl 48 [.ref m]):=by rw[List.getElem?_set_ne (by omega),h0]
 simp only[List.map_append,List.map_cons,List.map_nil];simp -implicitDefEqProofs only[go_sem,simprocAttr,he,h0,hm,hd0,hN,n0,hmN,gA,gj,sA,List.getElem?_append_left,List.set_append_left,List.append_assoc,List.length_set,h8,d1,d2,d3,Nat.zero_shiftRight,Nat.and_zero,Nat.zero_or]
theorem xea(env:Den.Env)(he:xf env 2= .ptr 0 0 0)(x:Int×Int)(S:xc):
  runK (zy T) T true qg [.code zc9,.beginRound,.code zc5] ⟨196,13,1,(7,q7 x)::env,[.cells true true 48 [.sl false 0 []]],0,S⟩=
   some (.round none,[.cells true false 48 [.ref 3],.cells true true 100 [q7 x],.cells false true 100 [q7 x],.cells false true 100 [q7 x]],0,S):=by
 have h8:=(ze (n:=0) (by omega)).2;simp -implicitDefEqProofs only[go_sem,simprocAttr,he,h8]
def zam(caps:List V):Den.Env:= [(6,.fn 197 caps),(4,.sl false 0 []),(2,.ptr 0 0 0),(0,.sl false 0 []),(1,.fn 197 caps)]
theorem yn3(caps:List V):xf (zam caps) 2= .ptr 0 0 0:=rfl
noncomputable def wi(caps:List V)(H:zw):Own:=⟨196,13,zam caps,H,0,[7],zc9,zc5,false,none,0⟩
def zg4(H:zw)(l:List (Int×Int)):Prop:=∃m fl,H[0]? =some (.cells true fl 48 [.ref m])∧H[m]? =some (.cells false true 100 (l.map q7))∧0<m∧m<H.length
theorem yvm(caps:List V)(S:xc):∀(xs:List (Int×Int)) (H:zw) (l:List (Int×Int)),zg4 H l→l.length+xs.length<1000→
  ∃H',zg4 H' (l++xs)∧qz T S.length (xs.map q7) (S++ [wi caps H])=some (true,S++ [wi caps H']):=by
 intro xs
 induction xs with
 |nil=>intro H l hI _;exact⟨H,by rw[List.append_nil];exact hI,rfl⟩
 |cons x xs ih=>
  intro H l hI hl;obtain⟨m,fl,i1,i2,i3,i4⟩:=hI;simp only[List.length_cons]at hl;have hr:=yvr (zam caps) (yn3 caps) H m l x S fl i1 i2 i3 (by omega) H.length rfl i4;have hy:=zbk (S:=S) (own:=wi caps H) (by kernel_rfl) rfl (args:= [q7 x]) rfl hr
  have hI2:zg4 ((H.set m .dead).set 0 (.cells true false 48 [.ref (H.length+2)])++ [.cells true true 100 [q7 x],.cells false true 100 [q7 x],.cells false true 100 ((l++ [x]).map q7)]) (l++ [x]):=by
   refine⟨H.length+2,false,?_,?_,by omega,by simp⟩
   ·rw[List.getElem?_append_left (by simp;omega),List.getElem?_set_self (by simp;omega)]
   ·rw[List.getElem?_append_right (by simp)]
    simp
  obtain⟨H',j1,j2⟩:=ih _ _ hI2 (by simp;omega);refine⟨H',by rw[List.append_assoc]at j1;exact j1,?_⟩;simp only[List.map_cons,qz];rw[hy];exact j2
theorem xm6(caps:List V)(S:xc)(x:Int×Int)(xs:List (Int×Int))(hx:xs.length<900):
  ∃H',zg4 H' (x::xs)∧qz T S.length ((x::xs).map q7) (S++ [wi caps [.cells true true 48 [.sl false 0 []]]])=some (true,S++ [wi caps H']):=by
 have hr:=xea (zam caps) (yn3 caps) x S;have hy:=zbk (S:=S) (own:=wi caps [.cells true true 48 [.sl false 0 []]]) (by kernel_rfl) rfl (args:= [q7 x]) rfl hr;have hI:zg4 [.cells true false 48 [.ref 3],.cells true true 100 [q7 x],.cells false true 100 [q7 x],.cells false true 100 [q7 x]] [x]:=⟨3,false,rfl,rfl,by omega,by simp⟩;obtain⟨H',j1,j2⟩:=yvm caps S xs _ _ hI (by simp;omega);refine⟨H',j1,?_⟩;simp only[List.map_cons,qz];rw[hy];exact j2
abbrev zde(caps:List V)(xs:List (Int×Int)):Prop:=∀S S' b,qz T 0 (xs.map q7) S=some (b,S')→(zy T).call 197 (.yld 0::caps) [] 0 S=some (.tup [],[],0,S')
theorem xku(caps:List V)(hc:xx caps= [])(hy:xj caps=false)(xs:List (Int×Int))(hx:xs.length<900)(hcall:zde caps xs):(zy T).call 196 [.sl false 0 [],.fn 197 caps] [] 0 []=some (wt 2 (xs.map q7),[],0,[]):=by
 rw[xgb];simp -implicitDefEqProofs only[go_sem,simprocAttr,hc];cases xs with
 |nil=>
  have e:(zy T).call 197 (.yld (List.length ([]:xc))::caps) [] 0 ([]++ [⟨196,13,zam caps,[.cells true true 48 [.sl false 0 []]],0,(#[7]:Array Nat).toList,zc9,zc5,false,none,0⟩])=some (.tup [],[],0,[]++ [wi caps [.cells true true 48 [.sl false 0 []]]]):=hcall _ _ _ rfl;unfold zam at e;rw[zbp (f:= .tmp 6) (g:=197) (caps:=caps) (S:= []) (ps:= #[7]) rfl hc hy zal.1 zal.2.1 ze1 rfl (own':=wi caps [.cells true true 48 [.sl false 0 []]]) e];simp only[wi,zam];simp -implicitDefEqProofs only[go_sem,simprocAttr];rfl
 |cons x xs=>
  obtain⟨H',⟨m,fl,i1,i2,i3,i4⟩,j2⟩:=xm6 caps [] x xs (by simp at hx;omega);have e:(zy T).call 197 (.yld (List.length ([]:xc))::caps) [] 0 ([]++ [⟨196,13,zam caps,[.cells true true 48 [.sl false 0 []]],0,(#[7]:Array Nat).toList,zc9,zc5,false,none,0⟩])=some (.tup [],[],0,[]++ [wi caps H']):=hcall _ _ _ j2;unfold zam at e;rw[zbp (f:= .tmp 6) (g:=197) (caps:=caps) (S:= []) (ps:= #[7]) rfl hc hy zal.1 zal.2.1 ze1 rfl (own':=wi caps H') e];simp only[wi,zam];simp -implicitDefEqProofs only[go_sem,simprocAttr,i1,i2];rfl
theorem yqa(caps:List V)(hc:xx caps= [])(hy:xj caps=false)(xs:List (Int×Int))(hx:xs.length<900)(hcall:zde caps xs):(zy T).call 124 [.fn 197 caps] [] 0 []=some (.sl (!(xs.map q7).isEmpty) 2 (xs.map q7),[],0,[]):=by
 rw[xhd];have e:=xku caps hc hy xs hx hcall;simp -implicitDefEqProofs only[go_sem,simprocAttr,hc,hy,e]
def yc(p:Pk)(sb:Bool)(z:Nat)(st:List Int)(caps:List V):Den.Env:= [(7,.fn 197 caps),(6,.sl sb z (st.map zx)),(5,zk p),(4,.ptr 1 0 0),(2,.ptr 0 0 0),(0,zk p),(1,.sl sb z (st.map zx))]
def wm(p:Pk):zw:= [.cells true true 34 [zk p],.cells true true 4 [.bool false]]
theorem xeb(p:Pk)(env:Den.Env)(he:xf env 4= .ptr 1 0 0)(x:Int×Int)(S:xc):
  runK (zy T) T true qg [.code y6,.beginRound,.code ye] ⟨126,9,2,(8,q7 x)::env,wm p,0,S⟩=some (.round (some .ret),wm p,0,S):=by
 unfold wm;simp -implicitDefEqProofs only[go_sem,simprocAttr,he]
theorem yp9(p:Pk)(sb:Bool)(z:Nat)(st:List Int)(caps:List V)(hc:xx caps= [])(hy:xj caps=false)(xs:List (Int×Int))(hcall:zde caps xs)(e1:(zy T).call 125 [zk p,.sl sb z (st.map zx)] [] 0 []=some (.fn 197 caps,[],0,[])):
  (zy T).call 126 [zk p,.sl sb z (st.map zx)] [] 0 []=some (.bool xs.isEmpty,[],0,[]):=by
 rw[xhb];simp only[zk]at e1;simp -implicitDefEqProofs only[go_sem,simprocAttr,zk,e1,hc];cases xs with
 |nil=>
  have e:(zy T).call 197 (.yld (List.length ([]:xc))::caps) [] 0 ([]++ [⟨126,9,yc p sb z st caps,wm p,0,(#[8]:Array Nat).toList,y6,ye,false,none,0⟩])=some (.tup [],[],0,[]++ [⟨126,9,yc p sb z st caps,wm p,0,[8],y6,ye,false,none,0⟩]):=hcall _ _ _ rfl;unfold yc wm zk at e;rw[zbp (f:= .tmp 7) (g:=197) (caps:=caps) (S:= []) (ps:= #[8]) rfl hc hy zal.1 zal.2.1 ze1 rfl e];simp -implicitDefEqProofs only[go_sem,simprocAttr]
 |cons x xs=>
  have hr:=xeb p (yc p sb z st caps) rfl x [];have hY:=zbk (S:= []) (own:=⟨126,9,yc p sb z st caps,wm p,0,[8],y6,ye,false,none,0⟩) (by kernel_rfl) rfl (args:= [q7 x]) rfl hr
  have e:(zy T).call 197 (.yld (List.length ([]:xc))::caps) [] 0 ([]++ [⟨126,9,yc p sb z st caps,wm p,0,(#[8]:Array Nat).toList,y6,ye,false,none,0⟩])=some (.tup [],[],0,[]++ [⟨126,9,yc p sb z st caps,wm p,0,[8],y6,ye,true,some .ret,0⟩]):=hcall _ _ false (by
   have hY':(zy T).yld 0 [q7 x] [⟨126,9,yc p sb z st caps,wm p,0,[8],y6,ye,false,none,0⟩]=some (false,[⟨126,9,yc p sb z st caps,wm p,0,[8],y6,ye,true,some .ret,0⟩]):=hY;show(match (zy T).yld 0 [q7 x] [⟨126,9,yc p sb z st caps,wm p,0,[8],y6,ye,false,none,0⟩]with|some (true,S')=>qz T 0 (xs.map q7) S'|o=>o)=_;rw[hY'];rfl)
  unfold yc wm zk at e;rw[zbp (f:= .tmp 7) (g:=197) (caps:=caps) (S:= []) (ps:= #[8]) rfl hc hy zal.1 zal.2.1 ze1 rfl e];simp -implicitDefEqProofs only[go_sem,simprocAttr]
theorem zi1{a b:Int}(h:fnz [a,b]=0):a=0∧b=0:=by
 simp only[fnz]at h;by_cases h1:a=0
 ·by_cases h2:b=0
  ·exact⟨h1,h2⟩
  ·simp[h1,h2]at h
 ·simp[h1]at h
theorem xcp{n:Nat}{i:Int}(h:uc n i=0):0≤i∧i<(n:Int):=by
 unfold uc at h;cases h1:decide (i<0)<;>cases h2:decide ((n:Int)≤i)<;>rw[h1,h2]at h<;>simp at h h1 h2;omega
def u3(p:Pk)(st:List Int):Int:=fnz [xy p,zee p.c.length st]
theorem yt5{p:Pk}{st:List Int}(h:u3 p st=0):Ok p∧k9 p st:=by
 obtain⟨h1,h2⟩:=zi1 h;refine⟨j7 h1,fun i hi=> ?_⟩;obtain⟨h3,_⟩:=zi1 h2;exact xcp (xw.1 h3 _ (List.mem_map.2 ⟨i,hi,rfl⟩))
def kf(p:Pk)(st:List Int):List (Int×Int):=allP p.n 0 ((j6 p).map (·.2)) (uj p st)
theorem zqz{p:Pk}(ho:Ok p):∀r∈j6 p,r.2.length=slots p:=by
 intro r hr;obtain⟨x,hx,rfl⟩:=List.mem_map.1 hr;have h:=zlp _ _ ((ze7 ho x hx).2);have h2:=(ze7 ho x hx).2;have h3:=zbt p;simp only[rsR];omega
theorem zp8{p:Pk}(ho:Ok p)(st:List Int):(kf p st).length≤64:=by
 have h:=xm4 p.n 8 ((j6 p).map (·.2)) 0 (uj p st) (fun r hr=>by
  obtain⟨x,hx,rfl⟩:=List.mem_map.1 hr;have:=zqz ho x hx;have:=ho.s8;omega)
 have v8:=ho.v8;simp only[List.length_map,show(j6 p).length=p.v.length by simp[j6]]at h;unfold kf;omega
abbrev zb3(p:Pk)(st:List Int):List V:= [.pp 1 [.sl (!((j6 p).map j0).isEmpty) 1 ((j6 p).map j0)] 0 0,.pp 1 [.sl true 1 (((uj p st).map rvT).map ud)] 0 0,.pp 3 [zk p] 0 0]
theorem call125(p:Pk)(ho:Ok p)(st:List Int):zde (zb3 p st) (kf p st):=by
 intro S S' b h;have v8:=ho.v8;refine xkt p _ _ (j6 p) ((uj p st).map rvT) 0 (by simp[j6];omega) (by simp[j6,uj]) (slots p) ho.s8 (zqz ho) (yzq st) S S' b ?_;rw[show((uj p st).map rvT).map (·.2)=uj p st by rw[List.map_map];exact List.map_id _];exact h
theorem zb2(p:Pk)(st:List Int):xx (zb3 p st)= []∧xj (zb3 p st)=false:=⟨rfl,rfl⟩
theorem c29(p:Pk)(sb:Bool)(st:List Int)(hf:p.fit)(hs:st.length<1000000):(zy T).call 29 [zk p,.sl sb 1 (st.map zx)] [] 0 []=
  some (if u3 p st=0 then .tup [.bool (kf p st).isEmpty,.int .i64 0]else .tup [.bool false,.int .i64 (u3 p st)],[],0,[]):=by
 rw[xfn];have e1:=xl0 p sb st hf hs;rw[show fnz [xy p,zee p.c.length st]=u3 p st from rfl]at e1;simp only[zk]at e1;cases h:(u3 p st !=0)
 ·have h0:u3 p st=0:=by simpa using h
  rw[if_pos h0];obtain⟨ho,hv⟩:=yt5 h0;have e2:=zga p ho sb 1 st hs hv (fun _=>rfl);obtain⟨i1,i2⟩:=zb2 p st;have e3:=yp9 p sb 1 st (zb3 p st) i1 i2 (kf p st) (call125 p ho st) e2;simp only[zk]at e3;simp -implicitDefEqProofs only[go_sem,simprocAttr,zk,e1,h,e3]
 ·have h0:¬u3 p st=0:=by simpa using h
  rw[if_neg h0];simp -implicitDefEqProofs only[go_sem,simprocAttr,zk,e1,h]
theorem zhe(p:Pk):slots (zp p)=slots p:=by
 unfold slots zp;simp only[List.getElem?_map];cases p.v[0]? <;>rfl
theorem xir(p:Pk)(st:List Int):u7 (zp p) st=u7 p st:=by
 unfold u7 cPr ux zp;apply List.map_congr_left;intro i _;simp only[List.getElem?_map];cases p.c[i.toNat]? <;>rfl
theorem ymh(p:Pk)(st:List Int):uj (zp p) st=uj p st:=by
 unfold uj lsR gx;rw[zhe,xir];unfold zp;simp only[List.length_map]
theorem zg6(p:Pk)(st:List Int):kf (zp p) st=wc p st:=by
 unfold kf wc;rw[ymh,yvu];rfl
theorem yt6(p:Pk)(st:List Int):u3 (zp p) st=u3 p st:=by
 unfold u3;rw[ypg];unfold zp;simp only[List.length_map]
def zc1(x y:Int):Int:=bif decide (x<y)then -1 else bif decide (y<x)then 1 else 0
theorem zpa(x y:Int):(zy T).call 207 [.int .i64 x,.int .i64 y] [] 0 []=some (.int .i64 (zc1 x y),[],0,[]):=by
 rw[xf3];unfold zc1;cases h:decide (x<y)
 ·cases h2:decide (y<x)
  ·simp -implicitDefEqProofs only[go_sem,simprocAttr,zjk,h,h2,za0]
  ·simp -implicitDefEqProofs only[go_sem,simprocAttr,zjk,h,h2,za0]
 ·simp -implicitDefEqProofs only[go_sem,simprocAttr,zjk,h]
def cmpL:List Int→List Int→Int
 | [],[]=>0
 | [],_::_=> -1
 |_::_,[]=>1
 |a::r,b::s=>bif zc1 a b !=0 then zc1 a b else cmpL r s
theorem xal(b c:Bool)(y z:Nat)(l m:List Int)(hy:l≠ []→y=1)(hz:m≠ []→z=1)(hb:l.length<1000000)(hm:m.length<1000000):∀i,i≤l.length→i≤m.length→(zy T).loop false [.code (.loop zj4),.inBlock 0,.code (.seq (.seq zmc (.cond (.tmp 35) (.seq zmb .ret) .skip)) (.seq zma .ret))] ⟨208,36,0,[(0,.sl b y (l.map zx)),(1,.sl c z (m.map zx)),(9,.sl b y (l.map zx)),(10,.int .i64 l.length),(11,.int .i64 i)],[],0,[]⟩=
  some (.ret (.int .i64 (cmpL (l.drop i) (m.drop i))),[],0,[]):=by
 refine xv l.length ?_ fun i hi ih=> ?_
 ·intro hm2
  have h1:=xz l.length;rw[zj,List.drop_of_length_le (Nat.le_refl _)];by_cases h:l.length<m.length
  ·have h2:decide ((l.length:Int)<(m.length:Int))=true:=by simp;omega
   rw[List.drop_eq_getElem_cons h];simp -implicitDefEqProofs only[go_sem,simprocAttr,h1,h2];rfl
  ·have h2:decide ((l.length:Int)<(m.length:Int))=false:=by simp;omega
   rw[List.drop_of_length_le (by omega)];simp -implicitDefEqProofs only[go_sem,simprocAttr,h1,h2];rfl
 ·intro hm2
  obtain⟨h1,h2,h3,h4,h5⟩:=zr hi (by omega);have hy1:=hy (fun e=>by rw[e]at hi;cases hi);subst hy1;rw[zj,h5];by_cases h:i<m.length
  ·obtain⟨g1,g2,g3,g4,g5⟩:=zr h (by omega)
   have hz1:=hz (fun e=>by rw[e]at h;cases h);subst hz1;rw[g5];simp only[cmpL];have h6:decide ((i:Int)≥(m.length:Int))=false:=by simp;omega
   have h6':decide ((m.length:Int)≤(i:Int))=false:=by simp;omega
   cases h7:(zc1 l[i] m[i] !=0)
   ·simp only[cond_false]
    rw[←ih (by omega)];simp -implicitDefEqProofs only[go_sem,simprocAttr,h1,h2,h3,h4,g2,g3,h6,h6',zpa,h7]
   ·simp -implicitDefEqProofs only[go_sem,simprocAttr,h1,h2,h3,h4,g2,g3,h6,h6',zpa,h7]
  ·have h6:decide ((i:Int)≥(m.length:Int))=true:=by simp;omega
   have h6':decide ((m.length:Int)≤(i:Int))=true:=by simp;omega
   rw[show m.drop i= []from List.drop_of_length_le (by omega)];simp -implicitDefEqProofs only[go_sem,simprocAttr,h1,h2,h3,h4,h6,h6'];rfl
theorem xkn(b c:Bool)(y z:Nat)(l m:List Int)(hy:l≠ []→y=1)(hz:m≠ []→z=1)(hb:l.length<1000000)(hm:m.length<1000000):(zy T).call 208 [.sl b y (l.map zx),.sl c z (m.map zx)] [] 0 []=some (.int .i64 (cmpL l m),[],0,[]):=by
 rw[xf2];have h:=xal b c y z l m hy hz hb hm 0 (by omega) (by omega);rw[show((0:Nat):Int)=0 from rfl,List.drop_zero,List.drop_zero]at h;simp -implicitDefEqProofs only[go_sem,simprocAttr,h]
theorem xko(x y:Int):(zy T).call 206 [.sl true 1 [.int .i64 x,.int .i64 y]] [] 0 []=some (.int .i64 (bif x !=0 then x else y),[],0,[]):=by
 rw[xf4];simp -implicitDefEqProofs only[go_sem,simprocAttr];rw[zj];cases h:(x !=0)
 ·simp -implicitDefEqProofs only[go_sem,simprocAttr,h,wrap64]
  rw[zj];cases h2:(y !=0)
  ·have:y=0:=by simpa using h2
   simp -implicitDefEqProofs only[go_sem,simprocAttr,h2,wrap64];rw[zj];simp -implicitDefEqProofs only[go_sem,simprocAttr];rw[this]
  ·simp -implicitDefEqProofs only[go_sem,simprocAttr,h2]
 ·simp -implicitDefEqProofs only[go_sem,simprocAttr,h]
def zo0(l m:List Int):Int:=bif zc1 l.length m.length !=0 then zc1 l.length m.length else cmpL l m
theorem xkp(b c:Bool)(y z:Nat)(l m:List Int)(hy:l≠ []→y=1)(hz:m≠ []→z=1)(hb:l.length<1000000)(hm:m.length<1000000):(zy T).call 205 [.sl b y (l.map zx),.sl c z (m.map zx)] [] 0 []=some (.int .i64 (zo0 l m),[],0,[]):=by
 rw[xf5];have e:=xkn b c y z l m hy hz hb hm;unfold zo0;simp -implicitDefEqProofs only[go_sem,simprocAttr,zpa,e,xko]
def zfy:List V→Option (List Int)
 | []=>some []
 | .int .i64 n::r=>(match zfy r with|some l=>some (n::l)|none=>none)
 |_::_=>none
theorem zou:∀{vs l},zfy vs=some l→vs=l.map zx
 | [],l,h=>by cases h;rfl
 |v::r,l,h=>by
  unfold zfy at h;split at h
  ·rename_i h0;cases h0
  ·rename_i n r' h0
   cases h0;split at h
   ·rename_i l' hl
    cases h;rw[zou hl];rfl
   ·cases h
  ·cases h
def zio(l:List Int)(y:Nat):Bool:=Nat.ble l.length 1000&&(Nat.beq l.length 0||Nat.beq y 1)
theorem zin{l:List Int}{y:Nat}(h:zio l y=true):l.length<1000000∧(l≠ []→y=1):=by
 unfold zio at h;simp only[Bool.and_eq_true,Bool.or_eq_true]at h;have h1:=Nat.le_of_ble_eq_true h.1;refine⟨by omega,fun hn=> ?_⟩;rcases h.2 with h2|h2
 ·have:=Nat.eq_of_beq_eq_true h2
  exact absurd (List.length_eq_zero_iff.1 this) hn
 ·exact Nat.eq_of_beq_eq_true h2
def ymb(f:FuncId)(args:List V):Option V:=
 match Nat.beq f 205 with
 |false=>none
 |true=>(match args with
  | [.sl _ y a,.sl _ z b]=>(match zfy a,zfy b with
   |some l,some m=>(match zio l y&&zio m z with|true=>some (.int .i64 (zo0 l m))|false=>none)
   |_,_=>none)
  |_=>none)
theorem ql(f:FuncId)(args:List V)(v:V)(h:ymb f args=some v):(zy T).call f args [] 0 []=some (v,[],0,[]):=by
 unfold ymb at h;split at h
 ·cases h
 ·rename_i hf
  have hf2:=Nat.eq_of_beq_eq_true hf;subst hf2;split at h
  ·split at h
   ·rename_i l m h1 h2
    split at h
    ·rename_i h3
     rw[Bool.and_eq_true]at h3;cases h;rw[zou h1,zou h2];exact xkp _ _ _ _ l m (zin h3.1).2 (zin h3.2).2 (zin h3.1).1 (zin h3.2).1
    ·cases h
   ·cases h
  ·cases h
def zoz:Nat→List Int→List (List Int)
 |0,_=> [[]]
 |_+1,[]=> []
 |s+1,x::xs=>(zoz s xs).map (x:: ·)++zoz (s+1) xs
def setsN(n:Nat):List (List Int):=(List.range (n+1)).flatMap fun s=>zoz s ((List.range n).map Int.ofNat)
def uh(z:Nat)(l:List Int):V:= .sl (!l.isEmpty) (bif l.isEmpty then z else 1) (l.map fun n=> .int .i64 n)
def seZ(n:Nat):Nat:=bif Nat.ble n 3 then 0 else 1
theorem ms0:(zy T).call 136 [.int .i64 0] [] 0 []=some (.fn 235 [.pp 1 [.sl true 1 ((setsN 0).map (uh (seZ 0)))] 0 0],[],0,[]):=jh ql 100000 (by kernel_rfl)
theorem ms1:(zy T).call 136 [.int .i64 1] [] 0 []=some (.fn 235 [.pp 1 [.sl true 1 ((setsN 1).map (uh (seZ 1)))] 0 0],[],0,[]):=jh ql 100000 (by kernel_rfl)
theorem ms2:(zy T).call 136 [.int .i64 2] [] 0 []=some (.fn 235 [.pp 1 [.sl true 1 ((setsN 2).map (uh (seZ 2)))] 0 0],[],0,[]):=jh ql 100000 (by kernel_rfl)
theorem ms3:(zy T).call 136 [.int .i64 3] [] 0 []=some (.fn 235 [.pp 1 [.sl true 1 ((setsN 3).map (uh (seZ 3)))] 0 0],[],0,[]):=jh ql 100000 (by kernel_rfl)
theorem ms4:(zy T).call 136 [.int .i64 4] [] 0 []=some (.fn 235 [.pp 1 [.sl true 1 ((setsN 4).map (uh (seZ 4)))] 0 0],[],0,[]):=jh ql 100000 (by kernel_rfl)
end Go.Den.FaT
