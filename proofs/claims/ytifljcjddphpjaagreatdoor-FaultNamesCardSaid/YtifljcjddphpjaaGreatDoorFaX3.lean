import Derived.Test.YtifljcjddphpjaaGreatDoorFaX2
import Derived.Test.YtifljcjddphpjaaGreatDoorZR
import Derived.Test.YtifljcjddphpjaaGreatDoorFaS0
import Derived.Test.YtifljcjddphpjaaGreatDoorFaX1
set_option linter.all false
set_option maxHeartbeats 8000000
set_option maxRecDepth 100000
noncomputable section
namespace Go.Den.FaT
open Go Go.Proofs Go.Den
theorem ms5:(zy T).call 136 [.int .i64 5] [] 0 []=some (.fn 235 [.pp 1 [.sl true 1 ((setsN 5).map (uh (seZ 5)))] 0 0],[],0,[]):=jh ql 100000 (by kernel_rfl)
def zbn(z:Nat)(l:List Nat):List V:=l.map fun b=>uh z ((List.range 6).filterMap fun i=>bif b.testBit i then some (Int.ofNat i)else none)
def qf0:FactG:=⟨232,[.ref 0,.int .i64 12,.int .i64 34,.int .i64 7,.fn 205 []],28,zbn 1 [0,1,2,4,8,16,32,3,5,9,17,33,34,13,14,49,11,10,18,19,20,21,22,48,24,25,41,40,12,37,36,35,7,6,38,31,30,29,28,39,27,26,42,43,44,45,46,47,23,15,50,51,52,53,54,55,56,57,58,59,60,61,62,63],.tup [],zbn 1 [0,1,2,4,8,16,32,3,5,9,17,33,6,10,18,34,12,20,36,24,40,48,7,11,19,35,13,21,37,25,41,49,14,22,38,31,30,29,28,39,27,26,42,43,44,45,46,47,23,15,50,51,52,53,54,55,56,57,58,59,60,61,62,63]⟩
theorem qo0:qf0.ok T:=by unfold FactG.ok;exact zfa ql (zfr T) 100000 (by kernel_rfl)
def qf1:FactG:=⟨232,[.ref 0,.int .i64 35,.int .i64 41,.int .i64 7,.fn 205 []],28,zbn 1 [0,1,2,4,8,16,32,3,5,9,17,33,6,10,18,34,12,20,36,24,40,48,7,11,19,35,13,21,37,25,41,49,14,22,38,26,52,50,28,44,42,56,27,43,39,45,46,47,23,15,29,51,30,53,54,55,31,57,58,59,60,61,62,63],.tup [],zbn 1 [0,1,2,4,8,16,32,3,5,9,17,33,6,10,18,34,12,20,36,24,40,48,7,11,19,35,13,21,37,25,41,49,14,22,38,26,42,50,28,44,52,56,27,43,39,45,46,47,23,15,29,51,30,53,54,55,31,57,58,59,60,61,62,63]⟩
theorem qo1:qf1.ok T:=by unfold FactG.ok;exact zfa ql (zcv qo0 (zfr T)) 100000 (by kernel_rfl)
def qf2:FactG:=⟨232,[.ref 0,.int .i64 42,.int .i64 52,.int .i64 7,.fn 205 []],28,zbn 1 [0,1,2,4,8,16,32,3,5,9,17,33,6,10,18,34,12,20,36,24,40,48,7,11,19,35,13,21,37,25,41,49,14,22,38,26,42,50,28,44,52,56,27,43,39,45,57,53,23,15,29,51,30,47,54,55,31,46,58,59,60,61,62,63],.tup [],zbn 1 [0,1,2,4,8,16,32,3,5,9,17,33,6,10,18,34,12,20,36,24,40,48,7,11,19,35,13,21,37,25,41,49,14,22,38,26,42,50,28,44,52,56,15,23,39,27,43,51,29,45,53,57,30,47,54,55,31,46,58,59,60,61,62,63]⟩
theorem qo2:qf2.ok T:=by unfold FactG.ok;exact zfa ql (zcv qo1 (zcv qo0 (zfr T))) 100000 (by kernel_rfl)
def qf3:FactG:=⟨204,[.ref 0,.fn 205 []],28,zbn 0 [0,1,2,3,4,5,6,7,8,9,10,11,12,13,14,15,16,17,18,19,20,21,22,23,24,25,26,27,28,29,30,31,32,33,34,35,36,37,38,39,40,41,42,43,44,45,46,47,48,49,50,51,52,53,54,55,56,57,58,59,60,61,62,63],.tup [],zbn 1 [0,1,2,4,8,16,32,3,5,9,17,33,6,10,18,34,12,20,36,24,40,48,7,11,19,35,13,21,37,25,41,49,14,22,38,26,42,50,28,44,52,56,15,23,39,27,43,51,29,45,53,57,30,46,54,58,60,31,47,55,59,61,62,63]⟩
theorem qo3:qf3.ok T:=by unfold FactG.ok;exact zfa ql (zcv qo2 (zcv qo1 (zcv qo0 (zfr T)))) 100000 (by kernel_rfl)
theorem ms6:(zy T).call 136 [.int .i64 6] [] 0 []=some (.fn 235 [.pp 1 [.sl true 1 ((setsN 6).map (uh (seZ 6)))] 0 0],[],0,[]):=zfa ql (zcv qo3 (zfr T)) 100000 (by kernel_rfl)
theorem c136(n:Nat)(h:n≤6):(zy T).call 136 [.int .i64 n] [] 0 []=some (.fn 235 [.pp 1 [.sl true 1 ((setsN n).map (uh (seZ n)))] 0 0],[],0,[]):=by
 match n,h with
 |0,_=>exact ms0
 |1,_=>exact ms1
 |2,_=>exact ms2
 |3,_=>exact ms3
 |4,_=>exact ms4
 |5,_=>exact ms5
 |6,_=>exact ms6
theorem zhh(n:Nat)(h:n≤6):((setsN n).length≤64∧0<(setsN n).length)∧(∀s∈setsN n,∀i∈s,0≤i∧i<(n:Int))∧(∀s∈setsN n,s.length≤6)∧(setsN n).Pairwise (fun a b=>a.length≤b.length):=by
 match n,h with
 |0,_=>decide+kernel
 |1,_=>decide+kernel
 |2,_=>decide+kernel
 |3,_=>decide+kernel
 |4,_=>decide+kernel
 |5,_=>decide+kernel
 |6,_=>decide+kernel
attribute [go_sem] uh
def jk(l:List Int):V:= .sl (!l.isEmpty) 1 (l.map zx)
attribute [go_sem] jk
theorem zqt(l:List Int):jk l= .sl (!l.isEmpty) 1 (l.map zx):=rfl
@[go_sem]theorem asSl_se{α:Type}(z:Nat)(x:List Int)(k:Bool→List V→Option α):jd 1 (.sl (!x.isEmpty) (bif x.isEmpty then z else 1) (x.map fun n=> .int .i64 n)) k=k (!x.isEmpty) (x.map zx):=by
 cases x with
 |nil=>simp[jd]
 |cons a r=>simp[jd];rfl
theorem xad(z:Nat)(l:List (List Int))(d:Nat)(hl:l.length<1000000):∀i,i≤l.length→∀S S' b,qz T d ((l.drop i).map jk) S=some (b,S')→
  (zy T).loop false [.code (.loop zjx),.inBlock 0] ⟨235,16,0,[(0,.yld d),(5,.sl true 1 (l.map (uh z))),(6,.int .i64 l.length),(7,.int .i64 i)],[],0,S⟩=some (.ret (.tup []),[],0,S'):=by
 refine xv l.length ?_ fun i hi ih=> ?_
 ·intro S S' b h
  rw[List.drop_of_length_le (Nat.le_refl _)]at h;simp only[List.map_nil,qz,Option.some.injEq,Prod.mk.injEq]at h;obtain⟨_,rfl⟩:=h;have h1:=xz l.length;rw[zj];simp -implicitDefEqProofs only[go_sem,simprocAttr,h1]
 ·intro S S' b h
  obtain⟨h1,h2,h3,h4,h5⟩:=zr hi (by omega);rw[h5]at h;simp only[List.map_cons,qz]at h;generalize l[i]=x at h3 h;cases hy:(zy T).yld d [jk x] S with
  |none=>rw[hy]at h;cases h
  |some w=>
   obtain⟨c,S1⟩:=w;rw[hy]at h;rw[zqt]at hy;cases c
   ·simp only[Option.some.injEq,Prod.mk.injEq]at h
    obtain⟨_,rfl⟩:=h;rw[zj];simp -implicitDefEqProofs only[go_sem,simprocAttr,h1,h2,h3,h4,hy]
   ·rw[←ih _ _ _ h]
    conv=>lhs;rw[zj]
    simp -implicitDefEqProofs only[go_sem,simprocAttr,h1,h2,h3,h4,hy]
theorem zo8(z:Nat)(l:List (List Int))(d:Nat)(hl:l.length<1000000)(S S':xc)(b:Bool)(h:qz T d (l.map jk) S=some (b,S')):(zy T).call 235 [.yld d,.pp 1 [.sl true 1 (l.map (uh z))] 0 0] [] 0 S=some (.tup [],[],0,S'):=by
 rw[xfr];have e:=xad z l d hl 0 (by omega) S S' b (by rw[List.drop_zero];exact h);rw[show((0:Nat):Int)=0 from rfl]at e;simp -implicitDefEqProofs only[go_sem,simprocAttr,e]
def expl(p:Pk)(l:List (List Int)):List (List Int):=l.filter fun st=>(kf p st).isEmpty
theorem call126(p:Pk)(ho:Ok p)(st:List Int)(hs:st.length<1000000)(hv:k9 p st):(zy T).call 126 [zk p,jk st] [] 0 []=some (.bool (kf p st).isEmpty,[],0,[]):=by
 obtain⟨i1,i2⟩:=zb2 p st;exact yp9 p _ _ st (zb3 p st) i1 i2 (kf p st) (call125 p ho st) (zga p ho _ _ st hs hv (fun _=>rfl))
def zk9(p:Pk)(H:zw)(l:List (List Int)):Prop:=2≤H.length∧H[0]? =some (.cells true true 34 [zk p])∧
 ((l= []∧∃fl,H[1]? =some (.cells true fl 22 [.sl false 0 []]))∨(l≠ []∧∃m fl,H[1]? =some (.cells true fl 22 [.ref m])∧H[m]? =some (.cells false true 28 (l.map jk))∧1<m∧m<H.length))
theorem yvq(p:Pk)(ho:Ok p)(env:Den.Env)(he1:xf env 1= .ptr 0 0 0)(he3:xf env 3= .ptr 1 0 0)(H:zw)(l:List (List Int))(x:List Int)(hx:x.length<1000000)(hv:k9 p x)(hll:l.length<1000)(hI:zk9 p H l)(N:Nat)(hN:H.length=N):
  ∃H',zk9 p H' (l++expl p [x])∧runK (zy T) T true qg [.code zgz,.beginRound,.code zf8] ⟨198,18,N,(9,jk x)::env,H,0,[]⟩=some (.round none,H',0,[]):=by
 obtain⟨hN2,h0,hI⟩:=hI;have e:=call126 p ho x hx hv;rw[zqt]at e;have n0:0<N:=by omega
 have n1:1<N:=by omega
 cases hu:(kf p x).isEmpty
 ·rw[hu]at e
  refine⟨H,?_,?_⟩
  ·rw[show expl p [x]= [] by simp[expl,hu],List.append_nil]
   exact⟨hN2,h0,hI⟩
  ·simp only[zk]at e h0
   simp -implicitDefEqProofs only[go_sem,simprocAttr,he1,he3,h0,hN,n0,e]
 ·rw[hu]at e
  have hex:expl p [x]= [x]:=by simp[expl,hu]
  rw[hex];have d1:decide (1<N+1)=true:=decide_eq_true (by omega);have d2:decide (1<N+2)=true:=decide_eq_true (by omega);simp only[zk]at e h0;rcases hI with⟨rfl,fl,h1⟩|⟨hl,m,fl,h1,hm,hm1,hmN⟩
  ·refine⟨H.set 1 (.cells true false 22 [.ref (N+1)])++ [.cells false true 28 [jk x],.cells false true 28 [jk x]],⟨by simp,?_,.inr ⟨by simp,N+1,false,?_,?_,by omega,by simp[hN]⟩⟩,?_⟩
   ·rw[List.getElem?_append_left (by simp;omega),List.getElem?_set_ne (by omega),h0,zk]
   ·rw[List.getElem?_append_left (by simp;omega),List.getElem?_set_self (by omega)]
   ·rw[gj (by simp;exact hN)];rfl
   ·have h8:=(ze (n:=0) (by omega)).2
    simp -implicitDefEqProofs only[go_sem,simprocAttr,he1,he3,h0,h1,hN,n0,n1,e,gA,gj,sA,List.getElem?_append_left,List.set_append_left,List.append_assoc,List.length_set,h8,d1,d2,Nat.zero_shiftRight,Nat.and_zero,Nat.zero_or]
  ·have h8:=(ze (n:=l.length) (by omega)).1
   have d4:decide (m<N+1)=true:=decide_eq_true (by omega);have hmN':m<N:=by omega
   have hd1:(H.set m .dead)[1]? =some (.cells true fl 22 [.ref m]):=by rw[List.getElem?_set_ne (by omega),h1]
   refine⟨(H.set m .dead).set 1 (.cells true false 22 [.ref (N+1)])++ [.cells false true 28 [jk x],.cells false true 28 ((l++ [x]).map jk)],⟨by simp,?_,.inr ⟨by simp,N+1,false,?_,?_,by omega,by simp[hN]⟩⟩,?_⟩
   ·rw[List.getElem?_append_left (by simp;omega),List.getElem?_set_ne (by omega),List.getElem?_set_ne (by omega),h0,zk]
   ·rw[List.getElem?_append_left (by simp;omega),List.getElem?_set_self (by simp;omega)]
   ·rw[gj (by simp;exact hN)];rfl
   ·simp only[List.map_append,List.map_cons,List.map_nil]
    simp -implicitDefEqProofs only[go_sem,simprocAttr,he1,he3,h0,h1,hm,hd1,hN,n0,n1,hmN',e,gA,gj,sA,List.getElem?_append_left,List.set_append_left,List.append_assoc,List.length_set,h8,d1,d2,d4,Nat.zero_shiftRight,Nat.and_zero,Nat.zero_or]
abbrev ve(n:Nat):List V:= [.pp 1 [.sl true 1 ((setsN n).map (uh (seZ n)))] 0 0]
def zcy(p:Pk):Den.Env:= [(8,.fn 235 (ve p.c.length)),(7,.int .i64 p.c.length),(6,.sl p.cb 3 (p.c.map x8)),(5,.ptr 0 0 2),(3,.ptr 1 0 0),(2,.sl false 0 []),(1,.ptr 0 0 0),(0,zk p)]
def zdw(p:Pk)(H:zw):Own:=⟨198,18,zcy p,H,0,[9],zgz,zf8,false,none,0⟩
theorem xev(p:Pk)(x:List Int)(xs:List (List Int)):expl p (x::xs)=expl p [x]++expl p xs:=by
 unfold expl;cases h:(kf p x).isEmpty<;>simp[h]
theorem ynw(p:Pk)(xs:List (List Int)):(expl p xs).length≤xs.length:=List.length_filter_le _ _
theorem yvl(p:Pk)(ho:Ok p):∀(xs:List (List Int)),(∀x∈xs,x.length<1000000∧k9 p x)→∀(H:zw) (l:List (List Int)),zk9 p H l→l.length+xs.length<1000→
  ∃H',zk9 p H' (l++expl p xs)∧qz T 0 (xs.map jk) [zdw p H]=some (true,[zdw p H']):=by
 intro xs
 induction xs with
 |nil=>intro _ H l hI _;exact⟨H,by rw[show expl p []= []from rfl,List.append_nil];exact hI,rfl⟩
 |cons x xs ih=>
  intro hx H l hI hl;simp only[List.length_cons]at hl;obtain⟨x1,x2⟩:=hx x (by simp);obtain⟨H1,hI1,hr⟩:=yvq p ho (zcy p) rfl rfl H l x x1 x2 (by omega) hI H.length rfl;have hy:=zbk (S:= []) (own:=zdw p H) (by kernel_rfl) rfl (args:= [jk x]) rfl hr;have hlen:=ynw p [x];simp only[List.length_cons,List.length_nil]at hlen;obtain⟨H',j1,j2⟩:=ih (fun y hy=>hx y (by simp[hy])) H1 _ hI1 (by rw[List.length_append];omega);refine⟨H',by rw[xev,←List.append_assoc];exact j1,?_⟩;have hy':(zy T).yld 0 [jk x] [zdw p H]=some (true,[zdw p H1]):=hy;simp only[List.map_cons,qz];rw[hy'];exact j2
abbrev exA(p:Pk):List (List Int):=expl p (setsN p.c.length)
theorem ypt(p:Pk)(ho:Ok p)(hl:(setsN p.c.length).length≤64)(hs:∀x∈setsN p.c.length,x.length<1000000∧k9 p x)(h136:(zy T).call 136 [.int .i64 p.c.length] [] 0 []=some (.fn 235 (ve p.c.length),[],0,[])):
  ∃H',(exA p= []∧(zy T).call 198 [zk p] [] 0 []=some (.sl false 0 [],H',0,[]))∨(exA p≠ []∧∃m,H'[m]? =some (.cells false true 28 ((exA p).map jk))∧(zy T).call 198 [zk p] [] 0 []=some (.ref m,H',0,[])):=by
 obtain⟨H',⟨i1,i2,i3⟩,hy⟩:=yvl p ho (setsN p.c.length) hs [.cells true true 34 [zk p],.cells true true 22 [.sl false 0 []]] [] ⟨by simp,rfl,.inl ⟨rfl,true,rfl⟩⟩ (by simp;omega);rw[List.nil_append]at i3
 have e:(zy T).call 235 (.yld (List.length ([]:xc))::ve p.c.length) [] 0 ([]++ [⟨198,18,zcy p,[.cells true true 34 [zk p],.cells true true 22 [.sl false 0 []]],0,(#[9]:Array Nat).toList,zgz,zf8,false,none,0⟩])=some (.tup [],[],0,[]++ [zdw p H']):=
  zo8 _ _ 0 (by omega) _ _ true hy
 have e0:=e;unfold zcy zk at e0
 have start:∀R,zez (runK (zy T) T false 99991 [.inBlock 0,.code (r198_6.seq .ret)] ⟨198,18,0,zcy p,H',0,[]⟩)=R→(zy T).call 198 [zk p] [] 0 []=R:=by
  intro R hR;rw[xf9];simp -implicitDefEqProofs only[go_sem,simprocAttr,zk,h136];rw[zbp (f:= .tmp 8) (g:=235) (caps:=ve p.c.length) (S:= []) (ps:= #[9]) rfl rfl rfl zd9.1 zd9.2.1 zlr rfl e0];exact hR
 refine⟨H',?_⟩;rcases i3 with⟨h1,fl,h2⟩|⟨h1,m,fl,h2,h3,h4,h5⟩
 ·refine .inl ⟨h1,start _ ?_⟩
  unfold zcy;simp -implicitDefEqProofs only[go_sem,simprocAttr,h2]
 ·refine .inr ⟨h1,m,h3,start _ ?_⟩
  unfold zcy;simp -implicitDefEqProofs only[go_sem,simprocAttr,h2]
structure Sok (p:Pk):Prop where
 len:(setsN p.c.length).length≤64
 el:∀x∈setsN p.c.length,x.length<1000000∧k9 p x
 c136:(zy T).call 136 [.int .i64 p.c.length] [] 0 []=some (.fn 235 (ve p.c.length),[],0,[])
theorem zpc(p:Pk)(hf:p.fit)(h:xy p=0)(hs:Sok p)(hx:exA p= []):(zy T).call 128 [zk p] [] 0 []=some (.tup [.sl false 1 [],.int .i64 18],[.cells true true 34 [zk p]],0,[]):=by
 rw[yog];have e1:=c23 p hf;rw[h]at e1;obtain⟨H',⟨h1,e2⟩|⟨h1,_⟩⟩:=ypt p (j7 h) hs.len hs.el hs.c136
 ·simp only[zk]at e1 e2
  simp -implicitDefEqProofs only[go_sem,simprocAttr,zk,e1,e2,qo]
 ·exact absurd hx h1
theorem zpd(p:Pk)(hf:p.fit)(h:xy p=0)(hs:Sok p)(hx:exA p≠ []):(zy T).call 128 [zk p] [] 0 []=some (.tup [.ref 1,.int .i64 0],[.cells true true 34 [zk p],.cells false true 28 ((exA p).map jk)],0,[]):=by
 rw[yog];have e1:=c23 p hf;rw[h]at e1
 have hne:(((exA p).length:Int)==0)=false:=by
  cases hc:exA p with
  |nil=>exact absurd hc hx
  |cons a r=>simp;omega
 obtain⟨H',⟨h1,e2⟩|⟨h1,m,h2,e2⟩⟩:=ypt p (j7 h) hs.len hs.el hs.c136
 ·exact absurd h1 hx
 ·generalize exA p=E at*
  simp only[zk]at e1 e2;simp -implicitDefEqProofs only[go_sem,simprocAttr,zk,e1,e2,h2,qo,hne]
abbrev qb(l:List (List Int)):Row:= .cells false true 28 (l.map jk)
theorem xlv(x0:List Int)(l:List (List Int))(hl:l[0]? =some x0)(s:List Int):(zy T).call 130 [jk s,.ptr 0 0 0] [.cells true false 22 [.ref 1],qb l] 0 []=some (.bool (decide ((x0.length:Int)<s.length)),[.cells true false 22 [.ref 1],qb l],0,[]):=by
 rw[xg9];have d:decide (0<(l.length:Int))=true:=decide_eq_true (by have:=(List.getElem?_eq_some_iff.1 hl).1;omega);simp -implicitDefEqProofs only[go_sem,simprocAttr,za0,d,hl]
theorem call130(x0:List Int)(l:List (List Int))(hl:l[0]? =some x0)(s:List Int)(k:V→Prog)(S:xc)(rd wr fr:Nat)(sk:Bool)(K:V→zw→Nat→xc→FP→Option Out):(callP (zy T) T 130 [.sl (!s.isEmpty) 1 (s.map zx),.ptr 1 0 0] k).go none [.cells false true 28 (l.map jk),.cells true false 22 [.ref 0]] 0 S ⟨rd,wr,fr,sk⟩ K=
  (k (.bool (decide ((x0.length:Int)<s.length)))).go none [.cells false true 28 (l.map jk),.cells true false 22 [.ref 0]] 0 S ⟨rd|||bit 1|||bit 0|||bit 1|||bit 0,wr|||bit 1|||bit 0|||bit 1|||bit 0,fr,sk⟩ K:=by
 refine(ziw (x:=1) (y:=0) xes.1 rfl k (fun k'=>ywc (by omega) rfl rfl rfl 9996 k') rfl rfl rfl rfl rfl rfl (xlv x0 l hl s) rfl).trans ?_;simp -implicitDefEqProofs only[go_sem,simprocAttr];rfl
abbrev za7:Row:= .cells true false 22 [.ref 0]
abbrev f130:V:= .fn 130 [.ptr 1 0 0]
def zk4(l:List (List Int))(i:Nat):Option Out:=
 (zy T).loop false [.code (.loop zgj),.inBlock 0,.code (.seq zhy .ret)]
  ⟨199,19,2,[(0,.ref 0),(1,f130),(7,.int .i64 l.length),(8,.int .i64 i)],[qb l,za7],0,[]⟩
structure Cut (x0:List Int) (l:List (List Int)) (n:Nat):Prop where
 hx:l[0]? =some x0
 le:n≤l.length
 ha:∀i (h:i<l.length),i<n→l[i].length≤x0.length
 hb:∀i (h:i<l.length),n≤i→x0.length<l[i].length
 hm:l.length<1000
theorem xao(x0:List Int)(l:List (List Int))(n:Nat)(hc:Cut x0 l n):∀i,i≤n→zk4 l i=some (.ret (.int .i64 (if n=l.length then -1 else n)),[qb l,za7],0,[]):=by
 have hm:=hc.hm;have hn:=hc.le;refine xv n ?_ fun i hi ih=> ?_
 ·unfold zk4
  rw[zj];by_cases hE:n=l.length
  ·have h1:=xz l.length
   rw[if_pos hE];subst hE;simp -implicitDefEqProofs only[go_sem,simprocAttr,h1]
  ·have hlt:n<l.length:=by omega
   obtain⟨h1,h2,h3,h4,h5⟩:=zr hlt (by omega);have hb:decide ((x0.length:Int)<l[n].length)=true:=by have:=hc.hb n hlt (Nat.le_refl _);simp;omega
   rw[if_neg hE];have e:=call130 x0 l hc.hx l[n];simp -implicitDefEqProofs only[go_sem,simprocAttr,h1,h2,h3,e,hb]
 ·have hlt:i<l.length:=by omega
  obtain⟨h1,h2,h3,h4,h5⟩:=zr hlt (by omega);have hb:decide ((x0.length:Int)<l[i].length)=false:=by have:=hc.ha i hlt hi;simp;omega
  rw[←ih];unfold zk4
  conv=>lhs;rw[zj]
  have e:=call130 x0 l hc.hx l[i];simp -implicitDefEqProofs only[go_sem,simprocAttr,h1,h2,h3,h4,e,hb]
theorem xks(x0:List Int)(l:List (List Int))(n:Nat)(hc:Cut x0 l n):(zy T).call 199 [.ref 0,f130] [qb l,za7] 0 []=some (.int .i64 (if n=l.length then -1 else n),[qb l,za7],0,[]):=by
 have h:=xao x0 l n hc 0 (by omega);unfold zk4 at h;rw[show((0:Nat):Int)=0 from rfl]at h;rw[yoc];simp -implicitDefEqProofs only[go_sem,simprocAttr,h]
theorem call199(x0:List Int)(l:List (List Int))(n:Nat)(hc:Cut x0 l n)(k:V→Prog)(S:xc)(rd wr fr:Nat)(sk:Bool)(K:V→zw→Nat→xc→FP→Option Out):(callP (zy T) T 199 [.ref 0,.fn 130 [.ptr 1 0 0]] k).go none [.cells false true 28 (l.map jk),.cells true false 22 [.ref 0]] 0 S ⟨rd,wr,fr,sk⟩ K=
  (k (.int .i64 (if n=l.length then -1 else n))).go none [.cells false true 28 (l.map jk),.cells true false 22 [.ref 0]] 0 S ⟨rd|||bit 0|||bit 1|||bit 0|||bit 1,wr|||bit 0|||bit 1|||bit 0|||bit 1,fr,sk⟩ K:=by
 refine(ziw (x:=0) (y:=1) yns.1 rfl k (fun k'=>zlu (by omega) rfl rfl rfl 9996 k') rfl rfl rfl rfl rfl rfl (xks x0 l n hc) rfl).trans ?_;simp -implicitDefEqProofs only[go_sem,simprocAttr];rfl
def zk6(l:List (List Int))(n j:Nat):Option Out:=
 (zy T).loop false [.code (.loop zgn),.inBlock 0,.code (.seq zh2 (.seq zh1 .ret))]
  ⟨129,42,2,[(0,.ref 0),(1,f130),(5,.int .i64 n),(6,.int .i64 j)],[qb l,za7],0,[]⟩
abbrev clr(l:List (List Int))(n:Nat):List V:=(l.map jk).take n++(List.replicate (l.length- n) (.sl false 0 [])++(l.map jk).drop (n+(l.length- n)))
theorem xbi(x0:List Int)(l:List (List Int))(n:Nat)(hc:Cut x0 l n):∀j,j≤l.length→n≤j→zk6 l n j=some (.ret (.sub 0 0 n),[.cells false true 28 (clr l n),za7],0,[]):=by
 have hm:=hc.hm;have hn:=hc.le;refine xv l.length ?_ fun j hj ih=> ?_
 ·intro _
  unfold zk6;rw[zj];have h1:=xz l.length;have d1:decide (n≤l.length)=true:=decide_eq_true hn;have d2:decide (0≤(n:Int))=true:=decide_eq_true (by omega);have d3:decide (n≤l.length∧l.length≤l.length)=true:=decide_eq_true ⟨hn,Nat.le_refl _⟩;have d4:decide (0≤n∧n≤(List.take n (List.map jk l)).length+((List.replicate (l.length- n) (V.sl false 0 [])).length+(List.drop (n+(l.length- n)) (List.map jk l)).length))=true:=decide_eq_true ⟨Nat.zero_le _,by simp;omega⟩;simp -implicitDefEqProofs only[go_sem,simprocAttr,h1,d1,d2,d3,d4,Nat.sub_zero]
 ·intro hAj
  obtain⟨h1,h2,h3,h4,h5⟩:=zr hj (by omega);have hb:decide ((x0.length:Int)<l[j].length)=true:=by have:=hc.hb j hj hAj;simp;omega
  rw[←ih (by omega)];unfold zk6
  conv=>lhs;rw[zj]
  have e:=call130 x0 l hc.hx l[j];simp -implicitDefEqProofs only[go_sem,simprocAttr,h1,h2,h3,h4,e,hb]
theorem xlx(x0:List Int)(l:List (List Int))(n:Nat)(hc:Cut x0 l n):(zy T).call 129 [.ref 0,f130] [qb l,za7] 0 []=if n=l.length then some (.ref 0,[qb l,za7],0,[])else some (.sub 0 0 n,[.cells false true 28 (clr l n),za7],0,[]):=by
 rw[yof];have e:=call199 x0 l n hc;have hm:=hc.hm;have hn:=hc.le;by_cases hE:n=l.length
 ·rw[if_pos hE]
  simp only[if_pos hE]at e;simp -implicitDefEqProofs only[go_sem,simprocAttr,e]
 ·rw[if_neg hE]
  simp only[if_neg hE]at e;have hb:((n:Int)== -1)=false:=by simp
  have hw:IntKind.i64.wrap ((n:Int)+1)=((n+1:Nat):Int):=by rw[wrap64]<;>omega
  have h:=xbi x0 l n hc (n+1) (by omega) (by omega);unfold zk6 at h;simp -implicitDefEqProofs only[go_sem,simprocAttr,e,hb,hw,h]
theorem c36(p:Pk)(hf:p.fit)(h0:xy p=0)(hs:Sok p)(x0:List Int)(n:Nat)(hc:Cut x0 (exA p) n):(zy T).call 36 [zk p] [] 0 []=some (.tup [.sl true 1 (((exA p).take n).map jk),.int .i64 0],[],0,[]):=by
 rw[yn8];have hne:exA p≠ []:=fun e=>by have:=hc.hx;rw[e]at this;cases this
 have e1:=zpd p hf h0 hs hne;have e2:=xlx x0 (exA p) n hc;have hm:=hc.hm;have hn:=hc.le;generalize exA p=l at*;simp only[zk]at e1;by_cases hE:n=l.length
 ·rw[if_pos hE]at e2
  have e3:∀(k:V→Prog) (S:xc) (rd wr fr:Nat) (sk:Bool) (K:V→zw→Nat→xc→FP→Option Out) (r0:Row),(callP (zy T) T 129 [.ref 1,.fn 130 [.ptr 2 0 0]] k).go none [r0,.cells false true 28 (l.map jk),.cells true false 22 [.ref 1]] 0 S ⟨rd,wr,fr,sk⟩ K=
    (k (.ref 1)).go none [r0,.cells false true 28 (l.map jk),.cells true false 22 [.ref 1]] 0 S ⟨rd|||bit 1|||bit 2|||bit 1|||bit 2,wr|||bit 1|||bit 2|||bit 1|||bit 2,fr,sk⟩ K:=by
   intro k S rd wr fr sk K r0;refine(ziw (x:=1) (y:=2) zi4.1 rfl k (fun k'=>zlu (by omega) rfl rfl rfl 9996 k') rfl rfl rfl rfl rfl rfl e2 rfl).trans ?_;simp -implicitDefEqProofs only[go_sem,simprocAttr];rfl
  rw[hE,List.take_length];simp -implicitDefEqProofs only[go_sem,simprocAttr,zk,e1,e3]
 ·rw[if_neg hE]at e2
  have e3:∀(k:V→Prog) (S:xc) (rd wr fr:Nat) (sk:Bool) (K:V→zw→Nat→xc→FP→Option Out) (r0:Row),(callP (zy T) T 129 [.ref 1,.fn 130 [.ptr 2 0 0]] k).go none [r0,.cells false true 28 (l.map jk),.cells true false 22 [.ref 1]] 0 S ⟨rd,wr,fr,sk⟩ K=
    (k (.sub 1 0 n)).go none [r0,.cells false true 28 (clr l n),.cells true false 22 [.ref 1]] 0 S ⟨rd|||bit 1|||bit 2|||bit 1|||bit 2,wr|||bit 1|||bit 2|||bit 1|||bit 2,fr,sk⟩ K:=by
   intro k S rd wr fr sk K r0;refine(ziw (x:=1) (y:=2) zi4.1 rfl k (fun k'=>zlu (by omega) rfl rfl rfl 9996 k') rfl rfl rfl rfl rfl rfl e2 rfl).trans ?_;simp -implicitDefEqProofs only[go_sem,simprocAttr];rfl
  have ht:(clr l n).take n=(l.take n).map jk:=by
   rw[List.take_append_of_le_length (by simp;omega),List.take_take,Nat.min_self,List.map_take]
  simp -implicitDefEqProofs only[go_sem,simprocAttr,zk,e1,e3,List.drop_zero,ht]
def zcp(x:Int):Nat→List Int→Int
 |_,[]=> -1
 |i,a::r=>bif x==a then i else zcp x (i+1) r
def yp(x:Int)(l:List Int):Bool:=l.any fun a=>a==x
theorem xdd(x:Int):∀(l:List Int) (i:Nat),decide (0≤zcp x i l)=yp x l:=by
 intro l
 induction l with
 |nil=>intro i;rfl
 |cons a r ih=>
  intro i;rw[show zcp x i (a::r)=bif x==a then(i:Int)else zcp x (i+1) r from rfl,show yp x (a::r)=(a==x||yp x r)from rfl,←ih (i+1)];by_cases h:x=a
  ·subst h;simp
  ·have h1:(x==a)=false:=by simpa using h
   have h2:(a==x)=false:=by simpa using fun e=>h (Eq.symm e)
   simp only[h1,h2,cond_false,Bool.false_or]
theorem xae(x:Int)(b:Bool)(z:Nat)(l:List Int)(hz:l≠ []→z=1)(hb:l.length<1000000):∀i,i≤l.length→(zy T).loop false [.code (.loop zjy),.inBlock 0,.code (.seq zl4 .ret)] ⟨231,19,0,[(0,.sl b z (l.map zx)),(1,.int .i64 x),(7,.int .i64 l.length),(8,.int .i64 i)],[],0,[]⟩=
  some (.ret (.int .i64 (zcp x i (l.drop i))),[],0,[]):=by
 refine xv l.length ?_ fun i hi ih=> ?_
 ·have h1:=xz l.length
  rw[zj,List.drop_of_length_le (Nat.le_refl _)];simp -implicitDefEqProofs only[go_sem,simprocAttr,h1];rfl
 ·obtain⟨h1,h2,h3,h4,h5⟩:=zr hi (by omega)
  have hz1:=hz (fun e=>by rw[e]at hi;cases hi);subst hz1;rw[zj,h5];simp only[zcp];cases h6:(x==l[i])
  ·simp only[cond_false]
   rw[←ih];simp -implicitDefEqProofs only[go_sem,simprocAttr,h1,h2,h3,h4,h6]
  ·simp only[cond_true]
   simp -implicitDefEqProofs only[go_sem,simprocAttr,h1,h2,h3,h4,h6]
theorem c231(x:Int)(b:Bool)(z:Nat)(l:List Int)(hz:l≠ []→z=1)(hb:l.length<1000000):(zy T).call 231 [.sl b z (l.map zx),.int .i64 x] [] 0 []=some (.int .i64 (zcp x 0 l),[],0,[]):=by
 rw[xft];have h:=xae x b z l hz hb 0 (by omega);rw[show((0:Nat):Int)=0 from rfl,List.drop_zero]at h;simp -implicitDefEqProofs only[go_sem,simprocAttr,h]
theorem zbw(a b:Int):decide (a≥b)=decide (b≤a):=rfl
theorem xkq(x:Int)(b:Bool)(z:Nat)(l:List Int)(hz:l≠ []→z=1)(hb:l.length<1000000):(zy T).call 200 [.sl b z (l.map zx),.int .i64 x] [] 0 []=some (.bool (yp x l),[],0,[]):=by
 rw[xf7];have h:=c231 x b z l hz hb;simp -implicitDefEqProofs only[go_sem,simprocAttr,h,zbw,xdd]
def cnt(x:Int)(L:List (List Int)):Nat:=L.countP (yp x)
theorem xi3(x:Int)(l:List Int)(L:List (List Int)):cnt x (l::L)=(bif yp x l then 1 else 0)+cnt x L:=by
 unfold cnt;rw[List.countP_cons];cases yp x l<;>simp<;>omega
theorem xi5(x:Int)(L:List (List Int)):cnt x L≤L.length:=List.countP_le_length
def km(w:List UInt8):V:= .str w
attribute [go_sem] km
theorem yps(n:List UInt8)(c:Int)(b:Bool)(l:List (Int×Int)):(zy T).call 201 [.agg [.str n,.int .i64 c,.sl b 2 (l.map jq)]] [] 0 []=some (.str n,[],0,[]):=by
 rw[xf6];simp -implicitDefEqProofs only[go_sem,simprocAttr]
theorem xa2(b:Bool)(l:List (Cz))(hb:l.length<1000000):∀i,i≤l.length→∀o:Option (List (List UInt8)),ka o=i→
  (zy T).loop false [.code (.loop zgl),.inBlock 0,.code (.seq zhz .ret)] ⟨174,22,0,[(1,.fn 201 []),(5,kp o 0),(8,.sl b 3 (l.map x8)),(9,.int .i64 l.length),(10,.int .i64 i)],kc km o 9,0,[]⟩=
   some (.ret (vv km 0 1 (qj o ((l.drop i).map (fun c=>c.n)))),[],0,[]):=by
 refine xv l.length ?_ fun i hi ih o ho=> ?_
 ·intro o ho
  rw[zj];have h1:=xz l.length;cases o with
  |none=>
   simp -implicitDefEqProofs only[go_sem,simprocAttr,h1];simp[qj,vv]
  |some a=>
   simp -implicitDefEqProofs only[go_sem,simprocAttr,h1];simp[qj,vv]
 ·obtain⟨h1,h2,h3,h4,h5⟩:=zr hi (by omega)
  rw[zj,h5];have ih':=ih (qj o [((fun c=>c.n) l[i])]) (by rw[jz,ho];rfl);rw[jx]at ih';dsimp only at ih';cases o with
  |none=>
   have h8:=ze (n:=0) (by omega);simp only[jy,zi,z6,List.map_cons,List.map_nil,km]at ih';simp -implicitDefEqProofs only[go_sem,simprocAttr,h1,h2,h3,h4,ih',h8.2,yps]
  |some a=>
   have h9:a.length=i:=ho;have h8:=(ze (n:=a.length) (by omega)).1;simp only[qd,zi,z6,List.map_append,List.map_cons,List.map_nil,km]at ih';simp -implicitDefEqProofs only[go_sem,simprocAttr,h1,h2,h3,h4,ih',h8,yps]
theorem xlh(b:Bool)(l:List (Cz))(hb:l.length<1000000):(zy T).call 174 [.sl b 3 (l.map x8),.fn 201 []] [] 0 []=some (wt 1 (((l).map (fun c=>c.n)).map km),[],0,[]):=by
 rw[zoo];have h:=xa2 b l hb 0 (by omega) none rfl;rw[show((0:Nat):Int)=0 from rfl,List.drop_zero,ji]at h;simp only[xk,xu]at h;simp -implicitDefEqProofs only[go_sem,simprocAttr,h]
theorem xlg:(zy T).call 174 [.sl false 0 [],.fn 201 []] [] 0 []=some (.sl false 0 [],[],0,[]):=by
 rw[zoo];simp -implicitDefEqProofs only[go_sem,simprocAttr];rw[zj];simp -implicitDefEqProofs only[go_sem,simprocAttr]
theorem xlu(a b:Int):(zy T).call 132 [.int .i64 a,.int .i64 b] [] 0 []=some (.bool (a==b),[],0,[]):=by
 rw[xg8];simp -implicitDefEqProofs only[go_sem,simprocAttr]
theorem xlt(a b:Int):(zy T).call 133 [.int .i64 a,.int .i64 b] [] 0 []=some (.bool (decide (0<a)),[],0,[]):=by
 rw[xg7];simp -implicitDefEqProofs only[go_sem,simprocAttr,za0]
def jc(g:Int→Int→Bool)(L:List (List Int)):Nat→List Cz→List Cz
 |_,[]=> []
 |i,c::r=>bif g (cnt i L) L.length then c::jc g L (i+1) r else jc g L (i+1) r
theorem zqs(g:Int→Int→Bool)(L:List (List Int)):∀(l:List Cz) (i:Nat),(jc g L i l).length≤l.length:=by
 intro l
 induction l with
 |nil=>intro i;exact Nat.le_refl _
 |cons c r ih=>
  intro i;simp only[jc];cases g (cnt i L) L.length
  ·simp only[cond_false,List.length_cons];have:=ih (i+1);omega
  ·simp only[cond_true,List.length_cons];have:=ih (i+1);omega
structure IsF (f:Nat) (g:Int→Int→Bool):Prop where
 c:∀a b:Int,(zy T).call f [.int .i64 a,.int .i64 b] [] 0 []=some (.bool (g a b),[],0,[])
 y:T.byref f=false
 p:T.prim f=none
 r:zd T f 4
theorem xc2:IsF 132 (fun a b=>a==b):=⟨xlu,ynv.1,ynv.2.1,yvz⟩
theorem xc1:IsF 133 (fun a b=>decide (0<a)):=⟨xlt,ynu.1,ynu.2.1,yvy⟩
def zaq(f:Nat)(p:Pk)(L:List (List Int))(o:Option (List Cz))(i:Nat)(c:Cz)(n j:Nat):Option Out:=
 (zy T).loop false [.code (.loop zkm),.inBlock 2,.code (.seq zmx (.cond (.tmp 46) zmw .skip)),.inBlock 1,.code zmv,.inLoop zgm,.inBlock 0,.code (.seq zh0 .ret)]
  ⟨131,54,0,[(1,.fn f []),(6,.ref 0),(8,kp o 1),(9,.int .i64 i),(10,.ptr (acI o 1) 0 0),(11,.int .i64 n),(23,.sl p.cb 3 (p.c.map x8)),(24,.int .i64 p.c.length),(25,.int .i64 i),(30,.ref 0),(31,.int .i64 L.length),(32,.int .i64 j)],
   qb L::(kc x8 o 180++ [.cells true true 180 [x8 c]]),0,[]⟩
theorem xbf(f:Nat)(p:Pk)(L:List (List Int))(hL:L.length<1000)(hl:∀l∈L,l.length<1000000)(o:Option (List Cz))(i:Nat)(c:Cz):∀j,j≤L.length→∀n,n≤j→zaq f p L o i c n j=zaq f p L o i c (n+cnt i (L.drop j)) L.length:=by
 refine xv L.length ?_ fun j hj ih=> ?_
 ·intro n _
  rw[List.drop_of_length_le (Nat.le_refl _)];rfl
 ·intro n hn
  obtain⟨h1,h2,h3,h4,h5⟩:=zr hj (by omega);have hw:IntKind.i64.wrap ((n:Int)+1)=((n+1:Nat):Int):=by rw[wrap64]<;>omega
  have e:=xkq i (!L[j].isEmpty) 1 L[j] (fun _=>rfl) (hl _ (List.getElem_mem hj));rw[h5,xi3];cases h6:yp i L[j]
  ·rw[h6]at e
   simp only[cond_false,Nat.zero_add];rw[←ih n (by omega)]
   conv=>lhs;unfold zaq;rw[zj]
   unfold zaq;cases o with
   |none=>
    simp only[xk,xu,zgw,List.nil_append,x8];simp -implicitDefEqProofs only[go_sem,simprocAttr,h1,h2,h3,h4,e]
   |some a=>
    simp only[zi,z6,zek,List.cons_append,List.nil_append,Nat.reduceAdd,x8];simp -implicitDefEqProofs only[go_sem,simprocAttr,h1,h2,h3,h4,e]
  ·rw[h6]at e
   simp only[cond_true];rw[←Nat.add_assoc,←ih (n+1) (by omega)]
   conv=>lhs;unfold zaq;rw[zj]
   unfold zaq;cases o with
   |none=>
    simp only[xk,xu,zgw,List.nil_append,x8];simp -implicitDefEqProofs only[go_sem,simprocAttr,h1,h2,h3,h4,e,hw]
   |some a=>
    simp only[zi,z6,zek,List.cons_append,List.nil_append,Nat.reduceAdd,x8];simp -implicitDefEqProofs only[go_sem,simprocAttr,h1,h2,h3,h4,e,hw]
def zdc(f:Nat)(p:Pk)(L:List (List Int))(o:Option (List Cz))(i:Nat):Option Out:=
 (zy T).loop false [.code (.loop zgm),.inBlock 0,.code (.seq zh0 .ret)]
  ⟨131,54,0,[(1,.fn f []),(6,.ref 0),(8,kp o 1),(23,.sl p.cb 3 (p.c.map x8)),(24,.int .i64 p.c.length),(25,.int .i64 i)],qb L::kc x8 o 180,0,[]⟩
def nmO(o:Option (List Cz)):List V:=((o.getD []).map fun c=>c.n).map km
theorem xbg(f:Nat)(g:Int→Int→Bool)(hF:IsF f g)(p:Pk)(hp:p.c.length<1000)(L:List (List Int))(hL:L.length<1000)(hl:∀l∈L,l.length<1000000):∀i,i≤p.c.length→∀o,ka o≤i→
  zdc f p L o i=some (.ret (.tup [.sl (!(nmO (qj o (jc g L i (p.c.drop i)))).isEmpty) 1 (nmO (qj o (jc g L i (p.c.drop i)))),.int .i64 0]),[],0,[]):=by
 refine xv p.c.length ?_ fun i hi ih=> ?_
 ·intro o ho
  unfold zdc;rw[zj,List.drop_of_length_le (Nat.le_refl _),show jc g L p.c.length []= []from by unfold jc;rfl,wb];have h1:=xz p.c.length;cases o with
  |none=>
   simp -implicitDefEqProofs only[go_sem,simprocAttr,h1,xlg];rfl
  |some a=>
   have ha:a.length≤p.c.length:=ho;have e:=xlh true a (by omega);simp -implicitDefEqProofs only[go_sem,simprocAttr,h1,e];rfl
 ·intro o ho
  obtain⟨h1,h2,h3,h4,h5⟩:=zr hi (by omega);rw[h5];simp only[jc];have hI:=xbf f p L hL hl o i p.c[i] 0 (by omega) 0 (by omega);rw[Nat.zero_add,List.drop_zero]at hI;have hE:=xz L.length
  have head:zdc f p L o i=zaq f p L o i p.c[i] 0 0:=by
   conv=>lhs;unfold zdc;rw[zj]
   unfold zaq;rw[show((0:Nat):Int)=0 from rfl];cases o with
   |none=>
    simp only[xk,xu,zgw,List.nil_append];simp -implicitDefEqProofs only[go_sem,simprocAttr,h1,h2,h3]
   |some a=>
    simp only[zi,z6,zek,List.cons_append,List.nil_append,Nat.reduceAdd];simp -implicitDefEqProofs only[go_sem,simprocAttr,h1,h2,h3]
  rw[head,hI];have hg:=hF.c (cnt i L) L.length;have hy:=hF.y;have hpr:=hF.p;have hr:zd T f 4:=hF.r;generalize p.c[i]=c at*;cases h6:g (cnt i L) L.length
  ·rw[h6]at hg
   simp only[cond_false];rw[←ih o (by omega)];unfold zaq;rw[zj];unfold zdc;cases o with
   |none=>
    simp only[xk,xu,zgw,List.nil_append,x8];simp -implicitDefEqProofs only[go_sem,simprocAttr,hE,h4,hg,hy,hpr,hr]
   |some a=>
    simp only[zi,z6,zek,List.cons_append,List.nil_append,Nat.reduceAdd,x8];simp -implicitDefEqProofs only[go_sem,simprocAttr,hE,h4,hg,hy,hpr,hr]
  ·rw[h6]at hg
   simp only[cond_true];have ih':=ih (qj o [c]) (by rw[jz];simp only[List.length_cons,List.length_nil];omega);rw[jx]at ih';simp only[List.cons_append,List.nil_append]at ih';rw[←ih'];unfold zaq;rw[zj];unfold zdc;cases o with
   |none=>
    have h8:=(ze (n:=0) (by omega)).2;simp only[jy,xk,xu,zgw,zi,z6,zek,List.cons_append,List.nil_append,Nat.reduceAdd,List.map_cons,List.map_nil,x8];simp -implicitDefEqProofs only[go_sem,simprocAttr,hE,h4,hg,hy,hpr,hr,h8]
   |some a=>
    have h9:a.length≤i:=ho;have h8:=(ze (n:=a.length) (by omega)).1;simp only[qd,zi,z6,zek,List.cons_append,List.nil_append,Nat.reduceAdd,List.map_append,List.map_cons,List.map_nil,x8];simp -implicitDefEqProofs only[go_sem,simprocAttr,hE,h4,hg,hy,hpr,hr,h8]
def zaa(g:Int→Int→Bool)(L:List (List Int))(l:List Cz):List (List UInt8):=(jc g L 0 l).map fun c=>c.n
theorem yyc(g:Int→Int→Bool)(L:List (List Int))(l:List Cz):nmO (qj none (jc g L 0 l))=(zaa g L l).map km:=by
 unfold nmO zaa;cases jc g L 0 l<;>rfl
theorem xey{p:Pk}(hs:Sok p):(exA p).length<1000∧∀l∈exA p,l.length<1000000:=
 ⟨by have:=ynw p (setsN p.c.length);have:=hs.len;show(expl p (setsN p.c.length)).length<1000;omega,fun l hl=>(hs.el l (List.mem_filter.1 hl).1).1⟩
theorem yp7(f:Nat)(p:Pk)(hf:p.fit)(h:xy p=0)(hs:Sok p)(hx:exA p= []):(zy T).call 131 [zk p,.fn f []] [] 0 []=some (.tup [.sl false 0 [],.int .i64 18],[],0,[]):=by
 rw[yoe];have e1:=zpc p hf h hs hx;simp only[zk]at e1;simp -implicitDefEqProofs only[go_sem,simprocAttr,zk,e1]
theorem yp8(f:Nat)(g:Int→Int→Bool)(hF:IsF f g)(p:Pk)(hf:p.fit)(h:xy p=0)(hs:Sok p)(hx:exA p≠ []):(zy T).call 131 [zk p,.fn f []] [] 0 []=
  some (.tup [.sl (!((zaa g (exA p) p.c).map km).isEmpty) 1 ((zaa g (exA p) p.c).map km),.int .i64 0],[],0,[]):=by
 rw[yoe];have e1:=zpd p hf h hs hx;have hc8:=(j7 h).c8;obtain⟨k1,k2⟩:=xey hs;have hl:=xbg f g hF p (by omega) (exA p) k1 k2 0 (by omega) none (by simp[xm8]);rw[List.drop_zero,yyc]at hl;generalize exA p=L at*;unfold zdc at hl;simp only[xk,xu,show((0:Nat):Int)=0 from rfl]at hl;simp only[zk]at e1;simp -implicitDefEqProofs only[go_sem,simprocAttr,zk,e1,hl]
theorem c37(p:Pk)(v:V)(e:Int)(b:Bool)(z:Nat)(l:List V)(h:(zy T).call 131 [zk p,.fn 132 []] [] 0 []=some (.tup [.sl b z l,.int .i64 e],[],0,[]))(hz:z=1∨b=false):(zy T).call 37 [zk p] [] 0 []=some (.tup [.sl b 1 l,.int .i64 e],[],0,[]):=by
 rw[xfm];simp only[zk]at h;rcases hz with rfl|rfl
 ·simp -implicitDefEqProofs only[go_sem,simprocAttr,zk,h,jd,qx,Bool.true_or,beq_self_eq_true]
 ·simp -implicitDefEqProofs only[go_sem,simprocAttr,zk,h,jd,qx,Bool.not_false,Bool.or_true]
theorem c38(p:Pk)(v:V)(e:Int)(b:Bool)(z:Nat)(l:List V)(h:(zy T).call 131 [zk p,.fn 133 []] [] 0 []=some (.tup [.sl b z l,.int .i64 e],[],0,[]))(hz:z=1∨b=false):(zy T).call 38 [zk p] [] 0 []=some (.tup [.sl b 1 l,.int .i64 e],[],0,[]):=by
 rw[xfl];simp only[zk]at h;rcases hz with rfl|rfl
 ·simp -implicitDefEqProofs only[go_sem,simprocAttr,zk,h,jd,qx,Bool.true_or,beq_self_eq_true]
 ·simp -implicitDefEqProofs only[go_sem,simprocAttr,zk,h,jd,qx,Bool.not_false,Bool.or_true]
structure Rok (p:Pk):Prop where
 len:(setsN p.c.length).length≤64
 el:∀x∈setsN p.c.length,x.length<1000000∧k9 p x
 c134:(zy T).call 134 [.int .i64 p.c.length] [] 0 []=some (.sl true 1 ((setsN p.c.length).map (uh 0)),[],0,[])
def exF(p:Pk)(l:List (List Int)):List (List Int):=l.filter fun st=>(wc p st).isEmpty
def kj(p:Pk):List (List Int):=exF p (setsN p.c.length)
def fLe(x0:List Int)(L:List (List Int)):List (List Int):=L.filter fun s=>s.length==x0.length
theorem yub(k:Nat):∀(l:List (List Int)),l.Pairwise (fun a b=>a.length≤b.length)→(∀s∈l,k≤s.length)→∃n,n≤l.length∧l.filter (fun s=>s.length==k)=l.take n∧(∀i (h:i<l.length),i<n→l[i].length=k)∧(∀i (h:i<l.length),n≤i→k<l[i].length):=by
 intro l
 induction l with
 |nil=>intro _ _;exact⟨0,by simp,by simp,by intro i h;exact absurd h (by simp),by intro i h;exact absurd h (by simp)⟩
 |cons a r ih=>
  intro hp hk;obtain⟨ha,hp2⟩:=List.pairwise_cons.1 hp;by_cases h:a.length=k
  ·obtain⟨n,h1,h2,h3,h4⟩:=ih hp2 (fun s hs=>hk s (by simp[hs]))
   refine⟨n+1,by simp;omega,?_,?_,?_⟩
   ·rw[List.filter_cons_of_pos (by simpa using h),h2,List.take_succ_cons]
   ·intro i hi hn
    cases i with
    |zero=>exact h
    |succ i=>simpa using h3 i (by simpa using hi) (by omega)
   ·intro i hi hn
    cases i with
    |zero=>omega
    |succ i=>simpa using h4 i (by simpa using hi) (by omega)
  ·have hka:=hk a (by simp)
   have hall:∀s∈a::r,k<s.length:=by
    intro s hs;rcases List.mem_cons.1 hs with rfl|hs
    ·omega
    ·have:=ha s hs;omega
   refine⟨0,by simp,?_,fun i _ h=>by omega,fun i hi _=>hall _ (List.getElem_mem hi)⟩;rw[List.take_zero,List.filter_eq_nil_iff];intro s hs;have:=hall s hs;simp;omega
theorem xim{l:List (List Int)}(hp:l.Pairwise (fun a b=>a.length≤b.length))(hm:l.length<1000)(hne:l≠ []):∃x0 n,l[0]? =some x0∧Cut x0 l n∧fLe x0 l=l.take n:=by
 cases l with
 |nil=>exact absurd rfl hne
 |cons x0 r=>
  have hk:∀s∈x0::r,x0.length≤s.length:=by
   intro s hs;rcases List.mem_cons.1 hs with rfl|hs
   ·exact Nat.le_refl _
   ·exact(List.pairwise_cons.1 hp).1 s hs
  obtain⟨n,h1,h2,h3,h4⟩:=yub x0.length (x0::r) hp hk;exact⟨x0,n,rfl,⟨rfl,h1,fun i h hi=>by rw[h3 i h hi];exact Nat.le_refl _,h4,hm⟩,h2⟩
theorem zqk{p:Pk}(h6:p.c.length≤6):Sok p:=
 ⟨(zhh _ h6).1.1,fun x hx=>⟨by have:=(zhh _ h6).2.2.1 x hx;omega,(zhh _ h6).2.1 x hx⟩,c136 _ h6⟩
theorem zic{p:Pk}(hck:xy p=0):xy (zp p)=0:=by rw[ypg];exact hck
theorem zck(p:Pk):(zp p).c.length=p.c.length:=by unfold zp;simp
theorem zfs(p:Pk):exA (zp p)=kj p:=by
 show expl (zp p) (setsN (zp p).c.length)=exF p (setsN p.c.length);rw[zck];unfold expl exF;congr 1;funext st;rw[zg6]
theorem yup(g:Int→Int→Bool)(L:List (List Int)):∀(l:List Cz) (i:Nat),(jc g L i (l.map qu)).map (fun c=>c.n)=(jc g L i l).map (fun c=>c.n):=by
 intro l
 induction l with
 |nil=>intro i;rfl
 |cons c r ih=>
  intro i;simp only[List.map_cons,jc];cases g (cnt i L) L.length
  ·simp only[cond_false];exact ih _
  ·simp only[cond_true,List.map_cons,ih];rfl
theorem yuo(g:Int→Int→Bool)(L:List (List Int))(p:Pk):zaa g L (zp p).c=zaa g L p.c:=yup g L p.c 0
theorem xkb(p:Pk)(E:Int)(hE:¬E=0)(z:Nat)(H:zw)(h:(zy T).call 128 [zk p] [] 0 []=some (.tup [.sl false z [],.int .i64 E],H,0,[])):(zy T).call 36 [zk p] [] 0 []=some (.tup [.sl false 0 [],.int .i64 E],[],0,[]):=by
 rw[yn8];have h1:(E !=0)=true:=by simpa using hE
 simp only[zk]at h;simp -implicitDefEqProofs only[go_sem,simprocAttr,zk,h,h1,jd,Bool.not_false,Bool.or_true]
def j9(b:Nat):Nat→Nat→List Int
 |_,0=> []
 |i,m+1=>bif ((b>>>i)&&&1==1)then(i:Int)::j9 b (i+1) m else j9 b (i+1) m
def bitS(n b:Nat):List Int:=j9 b 0 n
theorem zgc{n:Nat}(h:n≤5):((List.range (2^n)).map (bitS n)).Perm (setsN n):=by
 refine List.isPerm_iff.1 ?_;exact match n,h with
 |0,_=>(by kernel_rfl:List.isPerm ((List.range (2^0)).map (bitS 0)) (setsN 0)=true)
 |1,_=>(by kernel_rfl:List.isPerm ((List.range (2^1)).map (bitS 1)) (setsN 1)=true)
 |2,_=>(by kernel_rfl:List.isPerm ((List.range (2^2)).map (bitS 2)) (setsN 2)=true)
 |3,_=>(by kernel_rfl:List.isPerm ((List.range (2^3)).map (bitS 3)) (setsN 3)=true)
 |4,_=>(by kernel_rfl:List.isPerm ((List.range (2^4)).map (bitS 4)) (setsN 4)=true)
 |5,_=>(by kernel_rfl:List.isPerm ((List.range (2^5)).map (bitS 5)) (setsN 5)=true)
theorem zpl(b:Nat):∀m i x,x∈j9 b i m→(i:Int)≤x∧x<((i+m:Nat):Int):=by
 intro m
 induction m with
 |zero=>intro i x h;cases h
 |succ m ih=>
  intro i x h;rw[j9]at h;cases hb:((b>>>i)&&&1==1)
  ·rw[hb,cond_false]at h
   have:=ih _ _ h;omega
  ·rw[hb,cond_true]at h
   rcases List.mem_cons.1 h with rfl|h
   ·omega
   ·have:=ih _ _ h
    omega
theorem yqn(b:Nat):∀m i,ya (j9 b i m)=0∧(j9 b i m).length≤m:=by
 intro m
 induction m with
 |zero=>intro i;exact⟨rfl,Nat.le_refl _⟩
 |succ m ih=>
  intro i;rw[j9];obtain⟨h1,h2⟩:=ih (i+1);cases hb:((b>>>i)&&&1==1)
  ·rw[cond_false];exact⟨h1,by omega⟩
  ·rw[cond_true]
   refine⟨?_,by simp;omega⟩;cases hc:j9 b (i+1) m with
   |nil=>rfl
   |cons y r=>
    have hy:=(zpl b m (i+1) y (by rw[hc];simp)).1;rw[hc]at h1;rw[ya,if_neg (by omega)];exact h1
def cI(i:Int)(l:List Int):Nat:=l.countP (· ==i)
theorem xmo(b:Nat)(x:Int):∀m i,cI x (j9 b i m)=if yp x (j9 b i m)then 1 else 0:=by
 intro m
 induction m with
 |zero=>intro i;rfl
 |succ m ih=>
  intro i;rw[j9];cases hb:((b>>>i)&&&1==1)
  ·rw[cond_false];exact ih _
  ·rw[cond_true]
   have ih':=ih (i+1);unfold cI yp at*;rw[List.countP_cons,List.any_cons,ih'];by_cases hx:(i:Int)=x
   ·subst hx
    have:((j9 b (i+1) m).any fun y=>y==(i:Int))=false:=by
     rw[List.any_eq_false];intro y hy;have:=(zpl b m (i+1) y hy).1;simp;omega
    simp[this]
   ·simp[hx]
theorem xmj(n b:Nat):ya (bitS n b)=0:=(yqn b n 0).1
theorem zgd(n b:Nat):(bitS n b).length≤n:=(yqn b n 0).2
theorem zjq{n b:Nat}{x:Int}(h:x∈bitS n b):0≤x∧x<(n:Int):=by
 have:=zpl b n 0 x h;omega
def incR(r:List Int)(s:List Int):List Int:=s.foldl (fun r i=>r.set i.toNat (IntKind.i64.wrap (r.getD i.toNat 0+1))) r
def ju(n:Nat)(L:List (List Int)):List Int:=(List.range n).map fun(i:Nat)=>((cnt (i:Int) L:Nat):Int)
theorem ym0:∀(s r:List Int),(incR r s).length=r.length:=by
 intro s
 induction s with
 |nil=>intro r;rfl
 |cons x s ih=>intro r;rw[incR,List.foldl_cons];rw[show List.foldl (fun r i=>r.set i.toNat (IntKind.i64.wrap (r.getD i.toNat 0+1))) (r.set x.toNat (IntKind.i64.wrap (r.getD x.toNat 0+1))) s=incR (r.set x.toNat (IntKind.i64.wrap (r.getD x.toNat 0+1))) s from rfl,ih,List.length_set]
theorem xc9:∀(s r:List Int),(∀x∈s,0≤x∧x<(r.length:Int))→(∀k,0≤r.getD k 0∧r.getD k 0+s.length<1000)→∀k,(incR r s).getD k 0=r.getD k 0+(cI k s:Nat):=by
 intro s
 induction s with
 |nil=>intro r _ _ k;simp[incR,cI]
 |cons x s ih=>
  intro r hm hb k;have hx:=hm x (by simp);have hbx:=hb x.toNat;simp only[List.length_cons]at hb hbx;have hw:IntKind.i64.wrap (r.getD x.toNat 0+1)=r.getD x.toNat 0+1:=by rw[wrap64]<;>omega
  have hg:∀j,(r.set x.toNat (r.getD x.toNat 0+1)).getD j 0=if j=x.toNat then r.getD j 0+1 else r.getD j 0:=by
   intro j;rw[List.getD_eq_getElem?_getD,List.getElem?_set];by_cases h:x.toNat=j
   ·subst h
    have:x.toNat<r.length:=by omega
    simp[this]
   ·rw[if_neg h,if_neg (fun e=>h e.symm),List.getD_eq_getElem?_getD]
  have ih':=ih (r.set x.toNat (r.getD x.toNat 0+1)) (fun y hy=>by have:=hm y (by simp[hy]);simpa using this) (fun j=>by
   rw[hg];have:=hb j;split<;>omega) k
  rw[show incR r (x::s)=incR (r.set x.toNat (IntKind.i64.wrap (r.getD x.toNat 0+1))) s from rfl,hw,ih',hg];unfold cI;rw[List.countP_cons];by_cases h:k=x.toNat
  ·have h2:(x==(k:Int))=true:=by simp;omega
   rw[if_pos h,h2,if_pos rfl];omega
  ·have h2:(x==(k:Int))=false:=by simp;omega
   rw[if_neg h,h2,if_neg (by simp)];omega
theorem yo6(n:Nat)(L:List (List Int))(k:Nat):(ju n L).getD k 0=if k<n then((cnt k L:Nat):Int)else 0:=by
 unfold ju;rw[List.getD_eq_getElem?_getD,List.getElem?_map];by_cases h:k<n
 ·rw[List.getElem?_range h,if_pos h];rfl
 ·rw[List.getElem?_eq_none (by simp;omega),if_neg h];rfl
theorem xi4(x:Int)(L M:List (List Int)):cnt x (L++M)=cnt x L+cnt x M:=by unfold cnt;rw[List.countP_append]
theorem xi6(n b:Nat)(L:List (List Int))(hL:L.length<100)(hn:n≤5):incR (ju n L) (bitS n b)=ju n (L++ [bitS n b]):=by
 have hl:(ju n L).length=n:=by simp[ju]
 apply List.ext_getElem?;intro k
 have hk:=xc9 (bitS n b) (ju n L) (fun x hx=>by have:=zjq hx;rw[hl];exact this) (fun k=>by
  rw[yo6];have h1:=xi5 k L;have h2:=zgd n b;split<;>omega) k
 rw[yo6]at hk;by_cases h:k<n
 ·have g1:k<(incR (ju n L) (bitS n b)).length:=by rw[ym0,hl];exact h
  have g2:k<(ju n (L++ [bitS n b])).length:=by simp[ju];exact h
  rw[List.getElem?_eq_getElem g1,List.getElem?_eq_getElem g2];rw[List.getD_eq_getElem?_getD,List.getElem?_eq_getElem g1,Option.getD_some,if_pos h]at hk;rw[hk];have:(ju n (L++ [bitS n b]))[k]=((cnt k (L++ [bitS n b]):Nat):Int):=by simp[ju]
  rw[this,xi4];have hc:=xmo b k n 0;rw[show j9 b 0 n=bitS n b from rfl]at hc
  have h1:cnt k [bitS n b]=if yp k (bitS n b)then 1 else 0:=by
   unfold cnt;rw[List.countP_cons];simp
  rw[h1,hc];split<;>simp
 ·rw[List.getElem?_eq_none (by rw[ym0,hl];omega),List.getElem?_eq_none (by simp[ju];omega)]
theorem yqo{α:Type}{T:Tab}{t e:TypeId}(h:T.td t= .slice e)(a:Bool)(z:Nat)(l:List V)(k:V→Option α):xr T .eql t (.sl a z l) (.sl false 0 []) k=k (.bool (!a)):=by
 cases a<;>simp only[xr,ug,eqT,h]<;>rfl
theorem ytd:T.td 28= .slice 3:=by kernel_rfl
theorem ytc:T.td 72= .slice 142:=by kernel_rfl
theorem yp1(x:Int)(l:List Int)(hl:l.length<1000):(zy T).call 147 [.sl true 1 (.int .i64 x::l.map zx)] [] 0 []=some (.ref 1,[.dead,.cells false true 3 (.int .i64 x::l.map zx)],0,[]):=by
 rw[xgy];have h8:=(ze (n:=l.length) (by omega)).1;simp -implicitDefEqProofs only[go_sem,simprocAttr,h8,yqo ytd]
theorem xlo(x:Int×Int)(l:List (Int×Int))(hl:l.length<1000):(zy T).call 148 [.sl true 2 (.agg [.int .i64 x.1,.int .i64 x.2]::l.map jq)] [] 0 []=some (.ref 1,[.dead,.cells false true 142 (.agg [.int .i64 x.1,.int .i64 x.2]::l.map jq)],0,[]):=by
 rw[xgx];have h8:=(ze (n:=l.length) (by omega)).1;simp -implicitDefEqProofs only[go_sem,simprocAttr,h8,yqo ytc]
theorem yz1(b:Bool)(l:List (Cz))(hb:l.length<1000000):∀i,i≤l.length→∀o:Option (List (Cz)),ka o=i→
  (zy T).loop false [.code (.loop zge),.inBlock 0,.code (.seq zhr .ret)] ⟨97,18,0,[(3,kp o 0),(6,.sl b 3 (l.map x8)),(7,.int .i64 l.length),(8,.int .i64 i)],kc x8 o 140,0,[]⟩=
   some (.ret (vv x8 0 3 (qj o (l.drop i))),[],0,[]):=by
 refine xv l.length ?_ fun i hi ih o ho=> ?_
 ·intro o ho
  rw[zj];have h1:=xz l.length;cases o with
  |none=>
   simp -implicitDefEqProofs only[go_sem,simprocAttr,h1];simp[qj,vv]
  |some a=>
   simp -implicitDefEqProofs only[go_sem,simprocAttr,h1];simp[qj,vv]
 ·obtain⟨h1,h2,h3,h4,h5⟩:=zr hi (by omega)
  rw[zj,h5];have ih':=ih (qj o [l[i]]) (by rw[jz,ho];rfl);rw[jx]at ih';cases o with
  |none=>
   have h8:=ze (n:=0) (by omega);simp only[jy,zi,z6,List.map_cons,List.map_nil,x8]at ih';simp -implicitDefEqProofs only[go_sem,simprocAttr,h1,h2,h3,h4,ih',h8.2]
  |some a=>
   have h9:a.length=i:=ho;have h8:=(ze (n:=a.length) (by omega)).1;simp only[qd,zi,z6,List.map_append,List.map_cons,List.map_nil,x8]at ih';simp -implicitDefEqProofs only[go_sem,simprocAttr,h1,h2,h3,h4,ih',h8]
theorem c97(b:Bool)(l:List (Cz))(hb:l.length<1000000):(zy T).call 97 [.sl b 3 (l.map x8)] [] 0 []=some (wt 3 ((l).map x8),[],0,[]):=by
 rw[yn4];have h:=yz1 b l hb 0 (by omega) none rfl;rw[show((0:Nat):Int)=0 from rfl,List.drop_zero,ji]at h;simp only[xk,xu]at h;simp -implicitDefEqProofs only[go_sem,simprocAttr,h]
theorem c54(p:Pk)(hp:p.c.length<1000000):(zy T).call 54 [zk p] [] 0 []=some (.agg [.sl p.vb 1 (p.v.map j0),.int .i64 p.n,.sl (!(p.c.map x8).isEmpty) 3 (p.c.map x8)],[],0,[]):=by
 rw[xfh];have e:=c97 p.cb p.c hp;simp -implicitDefEqProofs only[go_sem,simprocAttr,zk,e]
def smC(l m:List Cz):Prop:=l.length=m.length∧∀i (h:i<l.length) (g:i<m.length),l[i].n=m[i].n∧l[i].c=m[i].c∧l[i].l=m[i].l
theorem yz2(b c:Bool)(l m:List Cz)(hb:l.length<1000000)(hm:smC l m)(hl:∀c∈l,c.l.length<1000000):∀i,i≤l.length→(zy T).loop false [.code (.loop zjs),.inBlock 0,.code (.seq zlw .ret)] ⟨96,55,0,[(0,.sl b 3 (l.map x8)),(1,.sl c 3 (m.map x8)),(5,.int .i64 i)],[],0,[]⟩=some (.ret (.bool true),[],0,[]):=by
 refine xv l.length ?_ fun i hi ih=> ?_
 ·rw[zj]
  have h1:=xz l.length;simp -implicitDefEqProofs only[go_sem,simprocAttr,h1]
 ·obtain⟨h1,h2,h3,h4,h5⟩:=zr hi (by omega)
  obtain⟨g1,g2,g3,g4,g5⟩:=zr (l:=m) (i:=i) (by have:=hm.1;omega) (by have:=hm.1;omega);have hi':i<m.length:=by have:=hm.1;omega
  rw[zj];obtain⟨q1,q2,q3⟩:=hm.2 i hi (by have:=hm.1;omega);have e:=xly l[i].b m[i].b l[i].l m[i].l (by have:=hl _ (List.getElem_mem hi);omega);have d1:(l[i].n==m[i].n)=true:=by rw[q1];simp
  have d2:(l[i].c !=m[i].c)=false:=by rw[q2];simp
  rw[show decide (l[i].l=m[i].l)=true by simp[q3]]at e;simp -implicitDefEqProofs only[go_sem,simprocAttr,h1,h2,h3,h4,g1,g2,g3,g4,e,ih,d1,d2]
theorem c96(b c:Bool)(l m:List Cz)(hb:l.length<1000000)(hm:smC l m)(hl:∀c∈l,c.l.length<1000000):(zy T).call 96 [.sl b 3 (l.map x8),.sl c 3 (m.map x8)] [] 0 []=some (.bool true,[],0,[]):=by
 rw[xfb];have h:((l.length:Int) !=m.length)=false:=by rw[hm.1];simp
 have h2:=yz2 b c l m hb hm hl 0 (by omega);rw[show((0:Nat):Int)=0 from rfl]at h2;simp -implicitDefEqProofs only[go_sem,simprocAttr,h,h2]
def fuE(p:Pk)(vs:List Int)(ls:List (Int×Int)):Int:=fnz [cond ((vs.length:Int) !=p.v.length) 2 0,fnz (vs.map fun n=>yj n),cond ((ls.length:Int) !=p.c.length) 2 0,fnz (ls.map fun x=>ku x),cond (decide (8≤(slots p:Int))) 5 0]
theorem yqc(b:Bool)(x y z u v:Int):(zy T).call 114 [.sl b 1 [.int .i64 x,.int .i64 y,.int .i64 z,.int .i64 u,.int .i64 v]] [] 0 []=some (.int .i64 (fnz [x,y,z,u,v]),[],0,[]):=va b [x,y,z,u,v] (by simp)
end Go.Den.FaT
namespace Go.Den
open Go
theorem zd6{α:Type}{ih:Ih}{T:Tab}{f:Nat}{args:List V}(hb:T.byref f=true)(hids:xx args= [])(hy:xj args=false)(k:V→Prog){i:Nat}
  {H:zw}{Fz:Nat}{S:xc}{rd wr fr:Nat}{sk:Bool}{K:V→zw→Nat→xc→FP→Option α}:
  (callP ih T f args k).go (some i) H Fz S ⟨rd,wr,fr,sk⟩ K=zo (ih.call f args [] 0 []) fun q=>zo (reach 10000 (idsV q.1) [] q.2.1) fun rs=>(zgs T f i k q rs).go (some i) H Fz S ⟨rd,wr,fr,sk⟩ K:=by
 unfold callP;rw[hb];simp only;rw[hids,show(10000:Nat)=9999+1 from rfl];rw[reachP];simp only[List.reverse_nil,maskP,rowsP,xm,withStk,hy];rw[zd1 _ _ hids,zaj];cases ih.call f args [] 0 []with
 |none=>rfl
 |some q=>
  obtain⟨v,H',Fz',S'⟩:=q;simp only[zo];rw[zaj];simp only[List.length_nil,List.range_zero,List.nil_append];cases reach (9999+1) (idsV v) [] H' with
  |none=>rfl
  |some rs=>
   simp only[zo];rw[ym8];simp only[zgs,znk,List.take_zero,xm,j5];cases S'<;>rfl
end Go.Den
namespace Go.Den.FaT
open Go Go.Proofs Go.Den
def xo(r:Bool×List Int)(u:Int):Bool×List Int:=(true,r.2++ [u])
def q8(c:Cz)(w:Int×Int):Cz:=⟨c.n,c.c,true,c.l++ [w]⟩
def L50(p:Pk)(b b2:Bool)(vs:List Int)(ls:List (Int×Int))(o:Option (List (Bool×List Int)))(i:Nat):Option Out:=
 (zy T).loop false [.code (.loop zgf),.inBlock 0,.code (.seq (.seq zhs (.block 2 (.loop zc7))) (.seq zds .ret))]
  ⟨50,105,0,[(1,.sl b 1 (vs.map zx)),(2,.sl b2 2 (ls.map jq)),(3,.ptr 0 0 0),(6,.ptr 1 0 0),(10,.ptr 2 0 0),(58,.sl p.vb 1 (p.v.map j0)),(59,.int .i64 p.v.length),(60,.int .i64 i)],
   .cells true true 34 [zk p]:: .cells true true 34 [.agg [.sl false 0 [],.int .i64 0,.sl false 0 []]]:: .cells true o.isNone 34 [.agg [kp o 3,.int .i64 p.n,.sl false 0 []]]::kc j0 o 28,0,[]⟩
theorem yz8(p:Pk)(ho:Ok p)(hr:∀r∈p.v,r.1=true)(b b2:Bool)(vs:List Int)(ls:List (Int×Int))(hv:vs.length=p.v.length):∀i,i≤p.v.length→∀o,ka o=i→
  L50 p b b2 vs ls o i=L50 p b b2 vs ls (qj o ((List.zipWith xo p.v vs).drop i)) p.v.length:=by
 have hv8:=ho.v8;have hs8:=ho.s8;refine xv p.v.length ?_ fun i hi ih o hO=> ?_
 ·intro o hO
  have h0:(List.zipWith xo p.v vs).drop p.v.length= []:=by simp;omega
  rw[h0,wb]
 ·obtain⟨h1,h2,h3,h4,h5⟩:=zr hi (by omega)
  obtain⟨g1,g2,g3,g4,g5⟩:=zr (l:=vs) (i:=i) (by omega) (by omega)
  have e:(List.zipWith xo p.v vs).drop i=xo p.v[i] vs[i]::(List.zipWith xo p.v vs).drop (i+1):=by
   rw[List.drop_eq_getElem_cons (by simp;omega)];simp
  rw[e];have ih':=ih (qj o [xo p.v[i] vs[i]]) (by rw[jz,hO];rfl);rw[jx]at ih';simp only[List.cons_append,List.nil_append]at ih';rw[←ih'];have hrow:=ho.row _ (List.getElem_mem hi);have hfl:=hr _ (List.getElem_mem hi);have hs1:=ho.s1
  conv=>lhs;unfold L50;rw[zj]
  unfold L50;cases hx:p.v[i].2 with
  |nil=>rw[hx]at hrow;simp at hrow;omega
  |cons x r=>
   have e1:=yp1 x r (by rw[hx]at hrow;simp at hrow;omega);have h7:decide (r.length+1+1<maxRow)=true:=decide_eq_true (by rw[hx]at hrow;simp at hrow;unfold maxRow;omega);cases o with
   |none=>
    have h8:=ze (n:=0) (by omega);simp only[jy,zi,z6,xk,xu,Option.isNone_some,Option.isNone_none,List.map_cons,List.map_nil,j0,xo,hx,zk];simp -implicitDefEqProofs only[go_sem,simprocAttr,zk,h1,h2,h3,h4,g2,g3,hx,hfl,e1,h7,h8.2,zd6,List.map_append,List.map_cons,List.map_nil]
   |some a=>
    have h9:a.length=i:=hO;have h8:=(ze (n:=a.length) (by omega)).1;simp only[qd,zi,z6,Option.isNone_some,List.map_append,List.map_cons,List.map_nil,j0,xo,hx,zk];simp -implicitDefEqProofs only[go_sem,simprocAttr,zk,h1,h2,h3,h4,g2,g3,hx,hfl,e1,h7,h8,zd6,List.map_append,List.map_cons,List.map_nil]
def zem(p:Pk)(R:List (Bool×List Int))(b2:Bool)(ls:List (Int×Int))(o:Option (List Cz))(i:Nat):Option Out:=
 (zy T).loop false [.code (.loop zc7),.inBlock 2,.code (.seq zds .ret)]
  ⟨50,105,0,[(2,.sl b2 2 (ls.map jq)),(6,.ptr 0 0 0),(10,.ptr 1 0 0),(80,.sl p.cb 3 (p.c.map x8)),(81,.int .i64 p.c.length),(82,.int .i64 i)],
   .cells true true 34 [.agg [.sl false 0 [],.int .i64 0,.sl false 0 []]]:: .cells true false 34 [.agg [.ref 2,.int .i64 p.n,kp o 3]]:: .cells false true 28 (R.map j0)::kc x8 o 180,0,[]⟩
theorem yz7(p:Pk)(R:List (Bool×List Int))(ho:Ok p)(hr:∀c∈p.c,c.b=true)(b2:Bool)(ls:List (Int×Int))(hv:ls.length=p.c.length):∀i,i≤p.c.length→∀o,ka o=i→
  zem p R b2 ls o i=some (.ret (.tup [.agg [.sl true 1 (R.map j0),.int .i64 p.n,vv x8 0 3 (qj o ((List.zipWith q8 p.c ls).drop i))],.int .i64 0]),[],0,[]):=by
 have hv8:=ho.c8;have hs8:=ho.s8;refine xv p.c.length ?_ fun i hi ih o hO=> ?_
 ·intro o hO
  have h0:(List.zipWith q8 p.c ls).drop p.c.length= []:=by simp;omega
  rw[h0,wb];unfold zem;rw[zj];have h1:=xz p.c.length;cases o with
  |none=>simp -implicitDefEqProofs only[go_sem,simprocAttr,h1,xk,xu]
  |some a=>simp -implicitDefEqProofs only[go_sem,simprocAttr,h1,zi,z6]
 ·obtain⟨h1,h2,h3,h4,h5⟩:=zr hi (by omega)
  obtain⟨g1,g2,g3,g4,g5⟩:=zr (l:=ls) (i:=i) (by omega) (by omega)
  have e:(List.zipWith q8 p.c ls).drop i=q8 p.c[i] ls[i]::(List.zipWith q8 p.c ls).drop (i+1):=by
   rw[List.drop_eq_getElem_cons (by simp;omega)];simp
  rw[e];have ih':=ih (qj o [q8 p.c[i] ls[i]]) (by rw[jz,hO];rfl);rw[jx]at ih';simp only[List.cons_append,List.nil_append]at ih';rw[←ih'];have hrow:=(ho.ca _ (List.getElem_mem hi)).2.2;have hfl:=hr _ (List.getElem_mem hi);have hs1:=ho.s1
  conv=>lhs;unfold zem;rw[zj]
  unfold zem;cases hx:p.c[i].l with
  |nil=>rw[hx]at hrow;simp at hrow;omega
  |cons x r=>
   have e1:=xlo x r (by rw[hx]at hrow;simp at hrow;omega);have h7:decide (r.length+1+1<maxRow)=true:=decide_eq_true (by rw[hx]at hrow;simp at hrow;unfold maxRow;omega);cases o with
   |none=>
    have h8:=ze (n:=0) (by omega);simp only[jy,zi,z6,xk,xu,Option.isNone_some,Option.isNone_none,List.map_cons,List.map_nil,q8,hx];simp -implicitDefEqProofs only[go_sem,simprocAttr,h1,h2,h3,h4,g2,g3,hx,hfl,e1,h7,h8.2,zd6,List.map_append,List.map_cons,List.map_nil]
   |some a=>
    have h9:a.length=i:=hO;have h8:=(ze (n:=a.length) (by omega)).1;simp only[qd,zi,z6,Option.isNone_some,List.map_append,List.map_cons,List.map_nil,q8,hx];simp -implicitDefEqProofs only[go_sem,simprocAttr,h1,h2,h3,h4,g2,g3,hx,hfl,e1,h7,h8,zd6,List.map_append,List.map_cons,List.map_nil]
theorem ynd{p:Pk}{vs:List Int}{ls:List (Int×Int)}(h:fuE p vs ls=0):vs.length=p.v.length∧ls.length=p.c.length∧slots p<8:=by
 have h':=xw.1 h;refine⟨?_,?_,?_⟩
 ·have:=za5 (h' _ (List.mem_cons_self ..)) (by decide)
  simp at this;omega
 ·have:=za5 (h' (cond ((ls.length:Int) !=p.c.length) 2 0) (by simp)) (by decide)
  simp at this;omega
 ·have:=za5 (h' (cond (decide (8≤(slots p:Int))) 5 0) (by simp)) (by decide)
  simp at this;omega
theorem c50(p:Pk)(hf:p.fit)(h:xy p=0)(b b2:Bool)(vs:List Int)(ls:List (Int×Int))(hb:vs.length<1000000)(hb2:ls.length<1000000)(hx:fuE p vs ls=0)(hr:∀r∈p.v,r.1=true)(hc:∀c∈p.c,c.b=true):
  (zy T).call 50 [zk p,.sl b 1 (vs.map zx),.sl b2 2 (ls.map jq)] [] 0 []=some (.tup [.agg [.sl true 1 ((List.zipWith xo p.v vs).map j0),.int .i64 p.n,wt 3 ((List.zipWith q8 p.c ls).map x8)],.int .i64 0],[],0,[]):=by
 rw[yn6];have ho:=j7 h;have e1:=c23 p hf;rw[h]at e1;obtain⟨k1,k2,k3⟩:=ynd hx;obtain⟨r0,g1,g2,g3⟩:=zhf ho;have gs:r0.2.length=slots p:=by rw[g2,zbt]
 have e2:=zpe b vs hb;have e3:=yp3 b2 ls hb2;have e4:∀b,(zy T).call 114 [.sl b 1 ((vs.map fun n=>yj n).map zx)] [] 0 []=_:=fun b=>va b (vs.map fun n=>yj n) (by simp;omega);have e5:∀b,(zy T).call 114 [.sl b 1 ((ls.map fun x=>ku x).map zx)] [] 0 []=_:=fun b=>va b (ls.map fun x=>ku x) (by simp;omega);have h1:(fuE p vs ls !=0)=false:=by simpa using hx
 have fin:L50 p b b2 vs ls (some (List.zipWith xo p.v vs)) p.v.length=zem p (List.zipWith xo p.v vs) b2 ls none 0:=by
  have hE:=xz p.v.length;unfold L50 zem;rw[zj];simp only[zi,z6,xk,xu,Option.isNone_some];simp -implicitDefEqProofs only[go_sem,simprocAttr,zk,hE]
 have hI:=yz8 p ho hr b b2 vs ls k1 0 (by omega) none rfl
 have hA:qj none (List.zipWith xo p.v vs)=some (List.zipWith xo p.v vs):=by
  cases hz:List.zipWith xo p.v vs with
  |nil=>
   have:=congrArg List.length hz;rw[List.length_zipWith,List.length_nil]at this;have:=ho.v1;omega
  |cons x r=>rfl
 rw[List.drop_zero,hA,fin,yz7 p _ ho hc b2 ls k2 0 (by omega) none rfl,List.drop_zero,ji]at hI;unfold L50 at hI;simp only[xk,xu,Option.isNone_none,show((0:Nat):Int)=0 from rfl,zk]at hI;simp only[zk]at e1;unfold fuE at h1;simp -implicitDefEqProofs only[go_sem,simprocAttr,zk,e1,e2,e3,e4,e5,g1,g3,gs,h1,qo,yqc,hI]
theorem yve(nz:Int)(i:Nat):∀(r:List Int) (k:Nat) (l:List (Int×Int)),rowP nz i k r l= []↔∀(j:Nat) x y,r[j]? =some x→l[j]? =some y→gu nz x y=false:=by
 intro r
 induction r with
 |nil=>intro k l;simp[rowP]
 |cons a r ih=>
  intro k l;cases l with
  |nil=>simp[rowP]
  |cons b l=>
   rw[rowP];cases h:gu nz a b
   ·rw[cond_false,ih]
    constructor
    ·intro H j x y hx hy
     cases j with
     |zero=>simp at hx hy;subst hx;subst hy;exact h
     |succ j=>exact H j x y (by simpa using hx) (by simpa using hy)
    ·intro H j x y hx hy
     exact H (j+1) x y (by simpa using hx) (by simpa using hy)
   ·rw[cond_true]
    constructor
    ·intro H;cases H
    ·intro H;have:=H 0 a b rfl rfl;rw[h]at this;cases this
theorem xm2(nz:Int):∀(R:List (List Int)) (i:Nat) (L:List (List (Int×Int))),allP nz i R L= []↔∀(j:Nat) r l,R[j]? =some r→L[j]? =some l→∀(k:Nat) x y,r[k]? =some x→l[k]? =some y→gu nz x y=false:=by
 intro R
 induction R with
 |nil=>intro i L;simp[allP]
 |cons a R ih=>
  intro i L;cases L with
  |nil=>simp[allP]
  |cons b L=>
   rw[allP,List.append_eq_nil_iff,ih,yve];constructor
   ·rintro⟨H1,H2⟩ j r l hr hl
    cases j with
    |zero=>simp at hr hl;subst hr;subst hl;exact H1
    |succ j=>exact H2 j r l (by simpa using hr) (by simpa using hl)
   ·intro H
    exact⟨H 0 a b rfl rfl,fun j r l hr hl=>H (j+1) r l (by simpa using hr) (by simpa using hl)⟩
theorem yzz(i k:Nat)(B:Int)(hB:0≤B∧B≤1000000):∀(cs:List (Nat×List (Int×Int))),(∀c∈cs,∀y∈c.2,(0≤y.1∧y.1≤B)∧(0≤y.2∧y.2≤B))→∀(m:Nat) (x:Int×Int),cs.length+m≤1000→(0≤x.1∧x.1≤B*m)∧(0≤x.2∧x.2≤B*m)→
  (0≤(yh i k cs x).1∧(yh i k cs x).1≤1000000000)∧(0≤(yh i k cs x).2∧(yh i k cs x).2≤1000000000):=by
 intro cs
 have hBm:∀m:Nat,m≤1000→B*m≤1000000000:=fun m hm=>by
  have:B*(m:Int)≤1000000*1000:=Int.mul_le_mul hB.2 (by omega) (by omega) (by omega);omega
 induction cs with
 |nil=>intro _ m x hm hx;have:=hBm m (by simpa using hm);rw[yh];omega
 |cons c cs ih=>
  intro hc m x hm hx;simp only[List.length_cons]at hm;have ih':=ih (fun c hc'=>hc c (by simp[hc'])) (m+1);rw[yh];have e:B*((m+1:Nat):Int)=B*m+B:=by rw[Int.natCast_add,Int.mul_add];simp
  rw[e]at ih';have hm1:=hBm (m+1) (by omega);rw[e]at hm1;have hBn:0≤B*(m:Int):=Int.mul_nonneg hB.1 (by omega);split
  ·refine ih' _ (by omega) ?_
   have hy:(0≤(c.2.getD k (0,0)).1∧(c.2.getD k (0,0)).1≤B)∧(0≤(c.2.getD k (0,0)).2∧(c.2.getD k (0,0)).2≤B):=by
    rw[List.getD_eq_getElem?_getD];cases hk:c.2[k]? with
    |none=>simp[hB.1]
    |some y=>exact hc c (by simp) y (List.mem_of_getElem? hk)
   unfold jm;rw[wrap64 (by omega) (by omega),wrap64 (by omega) (by omega)];omega
  ·exact ih' _ (by omega) (by omega)
theorem yzv{p:Pk}(ho:Ok p)(st:List Int)(hs:st.length≤100)(hv:k9 p st)(i k:Nat):(0≤(gx p st i k).1∧(gx p st i k).1≤1000000000)∧(0≤(gx p st i k).2∧(gx p st i k).2≤1000000000):=by
 refine yzz i k 1000000 (by omega) (u7 p st) (fun c hc=> ?_) 0 (0,0) (by simp[u7];omega) (by simp);obtain⟨a,ha,rfl⟩:=List.mem_map.1 hc;obtain⟨k1,_⟩:=zji ho (hv a ha);intro y hy;have:=ho.lo _ (List.mem_of_getElem? k1) y hy;omega
def rsx(p:Pk)(i k:Nat):Int:=(((jt p).map (·.2)).getD i []).getD k 0
theorem zg5{p:Pk}(ho:Ok p)(st:List Int):wc p st= []↔∀i,i<p.v.length→∀k,k<slots p→gu p.n (rsx p i k) (gx p st i k)=false:=by
 have hR:((jt p).map (·.2)).length=p.v.length:=by simp[jt]
 unfold wc;rw[xm2];constructor
 ·intro H i hi k hk
  have h1:((jt p).map (·.2))[i]? =some (((jt p).map (·.2)).getD i []):=by
   rw[List.getD_eq_getElem?_getD,List.getElem?_eq_getElem (by rw[hR];exact hi)];rfl
  have h2:(uj p st)[i]? =some (lsR p st i):=by unfold uj;rw[List.getElem?_map,List.getElem?_range hi];rfl
  have hl:(((jt p).map (·.2)).getD i []).length=slots p:=by
   obtain⟨r,hr,e⟩:=List.mem_map.1 (List.mem_of_getElem? h1);rw[←e];exact zq0 ho r hr
  refine H i _ _ h1 h2 k _ _ ?_ (by unfold lsR;rw[List.getElem?_map,List.getElem?_range hk];rfl);rw[List.getElem?_eq_getElem (by rw[hl];exact hk)];unfold rsx;rw[List.getD_eq_getElem?_getD (l:=((jt p).map (·.2)).getD i []),List.getElem?_eq_getElem (by rw[hl];exact hk)];rfl
 ·intro H j r l hr hl k x y hx hy
  have hj:j<p.v.length:=by rw[←hR];exact(List.getElem?_eq_some_iff.1 hr).1
  have h2:(uj p st)[j]? =some (lsR p st j):=by unfold uj;rw[List.getElem?_map,List.getElem?_range hj];rfl
  obtain rfl:=Option.some.inj (h2.symm.trans hl);have hk:k<slots p:=by rw[←ymi p st j];exact(List.getElem?_eq_some_iff.1 hy).1
  have:=H j hj k hk;unfold lsR at hy;rw[List.getElem?_map,List.getElem?_range hk]at hy;obtain rfl:=Option.some.inj hy
  have e:rsx p j k=x:=by
   unfold rsx;rw[List.getD_eq_getElem?_getD,List.getD_eq_getElem?_getD,hr,Option.getD_some,hx];rfl
  rw[e]at this;exact this
theorem xmt{n m x:Int}{y:Int×Int}(hn:0≤n)(hnm:n≤m)(hm:m≤1000000)(hy:(0≤y.1∧y.1≤1000000000)∧(0≤y.2∧y.2≤1000000000))(h:gu n x y=false):gu m x y=false:=by
 unfold gu at*;rw[wrap64 (by omega) (by omega),wrap64 (by omega) (by omega)]at*;simp only[Bool.or_eq_false_iff,decide_eq_false_iff_not]at*;omega
def zff(p:Pk)(d:Int):Pk:=⟨p.vb,p.v,p.n+d,p.cb,p.c⟩
theorem ys7{p:Pk}(ho:Ok p)(d:Int)(hd:0≤d)(hm:p.n+d≤1000000)(ho2:Ok (zff p d))(st:List Int)(hs:st.length≤100)(hv:k9 p st)(h:wc p st= []):wc (zff p d) st= []:=by
 rw[zg5 ho]at h;rw[zg5 ho2];intro i hi k hk;exact xmt ho.no.1 (by show p.n≤p.n+d;omega) hm (yzv ho st hs hv i k) (h i hi k hk)
def j8(p:Pk)(b cb:Bool)(u:Int)(w:Int×Int):Pk:=⟨b,p.v.map (fun r=>xo r u),p.n,cb,p.c.map fun c=>q8 c w⟩
theorem zqm{p:Pk}(ho:Ok p)(b cb:Bool)(u:Int)(w:Int×Int):slots (j8 p b cb u w)=slots p+1:=by
 have h1:=ho.v1;unfold slots j8;simp only[List.getElem?_map,List.getElem?_eq_getElem h1,Option.map_some,Option.getD_some,xo,List.length_append,List.length_cons,List.length_nil]
theorem yzu{p:Pk}(ho:Ok p)(b cb:Bool)(u:Int)(w:Int×Int)(st:List Int)(hv:k9 p st)(i k:Nat)(hk:k<slots p):gx (j8 p b cb u w) st i k=gx p st i k:=by
 unfold gx u7;generalize ((0:Int),(0:Int))=x
 induction st generalizing x with
 |nil=>rfl
 |cons a st ih=>
  have h1:=hv a (by simp);obtain⟨k1,k2,k3,k4⟩:=zji ho h1
  have hc:ux (j8 p b cb u w) a=q8 (ux p a) w:=by
   show((p.c.map fun c=>q8 c w)[a.toNat]?).getD _=_;rw[List.getElem?_map,k1];rfl
  simp only[List.map_cons,yh];rw[hc]
  have e:(cPr (q8 (ux p a) w)).2.getD k (0,0)=(cPr (ux p a)).2.getD k (0,0):=by
   show(((ux p a).l++ [w]).getD k (0,0))=(ux p a).l.getD k (0,0);rw[List.getD_eq_getElem?_getD,List.getElem?_append_left (by omega),List.getD_eq_getElem?_getD]
  rw[e];exact ih (fun y hy=>hv y (by simp[hy])) _
theorem yvb(m l:List Int)(k:Nat):(ub m l)[k]? =(m[k]?).bind fun a=>(l[k]?).map fun b=>IntKind.i64.wrap (a- b):=by
 unfold ub;rw[List.getElem?_zipWith];cases m[k]? <;>cases l[k]? <;>rfl
theorem zqy{p:Pk}(ho:Ok p)(i k:Nat)(hi:i<p.v.length)(hk:k<slots p):rsx p i k=IntKind.i64.wrap (med (uo p k)- (p.v[i]).2.getD k 0):=by
 have hr:=ho.row p.v[i] (List.getElem_mem hi);unfold rsx;rw[List.getD_eq_getElem?_getD (l:=(jt p).map (·.2)),List.getElem?_map];unfold jt;rw[List.getElem?_map,List.getElem?_eq_getElem hi];simp only[Option.map_some,Option.getD_some,rsT];rw[List.getD_eq_getElem?_getD,yvb];unfold qa;rw[List.getElem?_map,List.getElem?_range hk,List.getElem?_eq_getElem (by omega)];rw[List.getD_eq_getElem?_getD,List.getElem?_eq_getElem (by omega)];rfl
theorem ys6{p:Pk}(ho:Ok p)(b cb:Bool)(u:Int)(w:Int×Int)(ho2:Ok (j8 p b cb u w))(st:List Int)(hv:k9 p st)(h:wc (j8 p b cb u w) st= []):wc p st= []:=by
 have hs:=zqm ho b cb u w;have hl:(j8 p b cb u w).v.length=p.v.length:=by simp[j8]
 rw[zg5 ho2,hs,hl]at h;rw[zg5 ho];intro i hi k hk;have h1:=h i hi k (by omega);rw[yzu ho b cb u w st hv i k hk]at h1
 have hr:∀r∈p.v,(r.2++ [u]).getD k 0=r.2.getD k 0:=fun r hr=>by
  have:=ho.row r hr;rw[List.getD_eq_getElem?_getD,List.getElem?_append_left (by omega),List.getD_eq_getElem?_getD]
 have hcol:uo (j8 p b cb u w) k=uo p k:=by
  show(p.v.map fun r=>xo r u).map (fun r=>r.2.getD k 0)=p.v.map fun r=>r.2.getD k 0;rw[List.map_map];exact List.map_congr_left fun r hr'=>hr r hr'
 have e:rsx (j8 p b cb u w) i k=rsx p i k:=by
  rw[zqy ho2 i k (by omega) (by omega),zqy ho i k hi hk,hcol];have:(j8 p b cb u w).v[i]'(by omega)=xo p.v[i] u:=by simp[j8]
  rw[this];show IntKind.i64.wrap (med (uo p k)- (p.v[i].2++ [u]).getD k 0)=_;rw[hr _ (List.getElem_mem hi)]
 rw[e]at h1;exact h1
theorem zlg{n:Nat}(h:0<n∧n≤8):k7 n 8=0:=by
 unfold k7;have h1:((n:Int)==0)=false:=by simp;omega
 have h2:decide ((8:Int)<n)=false:=by simp;omega
 rw[h1,h2];rfl
theorem zdn{n a b:Int}(h:a≤n∧n≤b):kq n a b=0:=by
 rw[zho];omega
theorem ypf{q:Pk}(h1:0<q.v.length∧q.v.length≤8)(s:Nat)(hs:(q.v[0]?.getD (false,[])).2.length=s)(hs2:0<s∧s≤8)(hr:∀r∈q.v,r.2.length=s∧∀n∈r.2,0≤n∧n≤1000000)
  (hn:0≤q.n∧q.n≤1000000)(hc:xa q.c=0)(ha:∀c∈q.c,0≤c.c∧c.c<q.v.length∧c.l.length=s):xy q=0:=by
 unfold xy;rw[if_pos (zlg h1),hs,xw];intro x hx;simp only[List.mem_cons,List.not_mem_nil,or_false]at hx;rcases hx with rfl|rfl|rfl|rfl
 ·rw[xw]
  intro y hy;obtain⟨r,hr',rfl⟩:=List.mem_map.1 hy;obtain⟨g1,g2⟩:=hr r hr';unfold uy;rw[xw];intro z hz;simp only[List.mem_cons,List.not_mem_nil,or_false]at hz;rcases hz with rfl|rfl|rfl
  ·rw[g1];exact zlg hs2
  ·rw[g1];simp
  ·rw[xw]
   intro e he;obtain⟨n,hn',rfl⟩:=List.mem_map.1 he;exact zdn (g2 n hn')
 ·exact zdn hn
 ·exact hc
 ·rw[xw]
  intro y hy;obtain⟨c,hc',rfl⟩:=List.mem_map.1 hy;obtain⟨g1,g2,g3⟩:=ha c hc';unfold uv;have h3:decide ((q.v.length:Int)≤c.c)=false:=by simp;omega
  rw[h3,g3];simp[fnz]
theorem xjk{p:Pk}(ho:Ok p)(d:Int)(hd:0≤d)(hm:p.n+d≤1000000):xy (zff p d)=0:=
 ypf ⟨ho.v1,ho.v8⟩ (slots p) rfl ⟨ho.s1,ho.s8⟩ (fun r hr=>⟨ho.row r hr,ho.en r hr⟩) ⟨by show 0≤p.n+d;have:=ho.no;omega,hm⟩ ho.cs ho.ca
theorem xjn{l:List Cz}(h:xa l=0)(s:Nat)(hs:s+1≤8)(hl:∀c∈l,c.l.length=s)(w:Int×Int)(hw:ku w=0):xa (l.map fun c=>q8 c w)=0:=by
 unfold xa at*;rw[List.length_map];split at h
 ·cases h
 ·rename_i h8
  rw[if_neg h8]
  have key:∀(r:List Cz) (i:Nat),(∀c∈r,c.l.length=s)→fnz (q6 l i r)=0→fnz (q6 (l.map fun c=>q8 c w) i (r.map fun c=>q8 c w))=0:=by
   intro r
   induction r with
   |nil=>intro i _ _;rfl
   |cons c r ih=>
    intro i hr hz;rw[xw]at hz⊢;simp only[List.map_cons,q6,List.mem_cons]at hz⊢;have h1:uz l i c=0:=hz _ (.inl rfl);have h2:=ih (i+1) (fun c hc=>hr c (by simp[hc])) (xw.2 fun x hx=>hz x (.inr hx));intro x hx;rcases hx with rfl|hx
    ·have hd:qi (l.map fun c=>q8 c w) i (q8 c w)=qi l i c:=by
      unfold qi;rw[←List.map_take,List.any_map];rfl
     unfold uz at h1⊢;rw[hd];rw[xw]at h1⊢;intro y hy;simp only[List.mem_cons,List.not_mem_nil,or_false]at hy;rcases hy with rfl|rfl|rfl
     ·exact h1 (cond (!w5 c.n) 8 0) (by simp)
     ·exact h1 _ (by simp)
     ·have h3:=h1 (u2 c) (by simp)
      unfold u2 at h3⊢;rw[xw]at h3⊢;intro z hz';simp only[List.mem_cons,List.not_mem_nil,or_false]at hz';rcases hz' with rfl|rfl|rfl
      ·exact h3 (kq c.c 0 7) (by simp)
      ·show k7 ((c.l++ [w]).length:Nat) 8=0
       rw[List.length_append,hr c (by simp)];exact zlg ⟨by simp,by simpa using hs⟩
      ·show fnz ((c.l++ [w]).map fun x=>ku x)=0
       have h4:=h3 (fnz (c.l.map fun x=>ku x)) (by simp);rw[xw]at h4⊢;intro e he;rw[List.map_append,List.mem_append]at he;rcases he with he|he
       ·exact h4 e he
       ·simp at he;rw[he];exact hw
    ·exact xw.1 h2 x hx
  exact key l 0 hl h
theorem xjj{p:Pk}(ho:Ok p)(h8:slots p<8)(b cb:Bool)(u:Int)(hu:0≤u∧u≤1000000)(w:Int×Int)(hw:ku w=0):xy (j8 p b cb u w)=0:=by
 have hs:=zqm ho b cb u w;have hl:(j8 p b cb u w).v.length=p.v.length:=by simp[j8]
 refine ypf (by rw[hl];exact⟨ho.v1,ho.v8⟩) (slots p+1) hs (by omega) (fun r hr=> ?_) ho.no (xjn ho.cs (slots p) (by omega) (fun c hc=>(ho.ca c hc).2.2) w hw) (fun c hc=> ?_)
 ·obtain⟨r0,hr0,rfl⟩:=List.mem_map.1 hr
  refine⟨by show(r0.2++ [u]).length=_;rw[List.length_append,ho.row r0 hr0];rfl,fun n hn=> ?_⟩;rcases List.mem_append.1 hn with hn|hn
  ·exact ho.en r0 hr0 n hn
  ·simp at hn;rw[hn];exact hu
 ·obtain⟨c0,hc0,rfl⟩:=List.mem_map.1 hc
  rw[hl];obtain⟨g1,g2,g3⟩:=ho.ca c0 hc0;exact⟨g1,g2,by show(c0.l++ [w]).length=_;rw[List.length_append,g3];rfl⟩
theorem yq6(u:Int):∀l:List (Bool×List Int),List.zipWith xo l (List.replicate l.length u)=l.map fun r=>xo r u:=by
 intro l
 induction l with
 |nil=>rfl
 |cons a l ih=>rw[List.length_cons,List.replicate_succ,List.zipWith_cons_cons,ih];rfl
theorem yq7(w:Int×Int):∀l:List Cz,List.zipWith q8 l (List.replicate l.length w)=l.map fun c=>q8 c w:=by
 intro l
 induction l with
 |nil=>rfl
 |cons a l ih=>rw[List.length_cons,List.replicate_succ,List.zipWith_cons_cons,ih];rfl
def zas(a x:Int×Int):Bool:=a.1==x.1&&a.2==x.2
def w7(x:Int×Int)(l:List (Int×Int)):Bool:=l.any fun a=>zas a x
theorem xlq(a x:Int×Int)(b:Bool)(pr:List (Int×Int))(i:Nat)(hi:pr[i]? =some x):(zy T).call 142 [.agg [.int .i64 a.1,.int .i64 a.2],.pp 1 [.sl b 2 (pr.map q7)] 0 0,.pp 1 [.int .i64 i] 0 0] [] 0 []=some (.bool (zas a x),[],0,[]):=by
 rw[xg1];have h2:decide (0≤(i:Int)∧(i:Int)<(pr.length:Int))=true:=decide_eq_true (by have:=(List.getElem?_eq_some_iff.1 hi).1;omega);unfold zas;simp -implicitDefEqProofs only[go_sem,simprocAttr,h2,hi]
def zco(x:Int×Int):Nat→List (Int×Int)→Int
 |_,[]=> -1
 |i,a::r=>bif zas a x then i else zco x (i+1) r
theorem xdc(x:Int×Int):∀(l:List (Int×Int)) (i:Nat),decide (0≤zco x i l)=w7 x l:=by
 intro l
 induction l with
 |nil=>intro i;rfl
 |cons a r ih=>
  intro i;rw[show zco x i (a::r)=bif zas a x then(i:Int)else zco x (i+1) r from rfl,show w7 x (a::r)=(zas a x||w7 x r)from rfl,←ih (i+1)];cases zas a x<;>simp
theorem xai(x:Int×Int)(b bp:Bool)(pr:List (Int×Int))(k:Nat)(hk:pr[k]? =some x)(l:List (Int×Int))(hb:l.length<1000000):∀i,i≤l.length→(zy T).loop false [.code (.loop zj2),.inBlock 0,.code (.seq zl8 .ret)] ⟨211,19,0,[(0,.sl b 2 (l.map q7)),(1,.fn 142 [.pp 1 [.sl bp 2 (pr.map q7)] 0 0,.pp 1 [.int .i64 k] 0 0]),(7,.int .i64 l.length),(8,.int .i64 i)],[],0,[]⟩=
  some (.ret (.int .i64 (zco x i (l.drop i))),[],0,[]):=by
 refine xv l.length ?_ fun i hi ih=> ?_
 ·have h1:=xz l.length
  rw[zj,List.drop_of_length_le (Nat.le_refl _)];simp -implicitDefEqProofs only[go_sem,simprocAttr,h1];rfl
 ·obtain⟨h1,h2,h3,h4,h5⟩:=zr hi (by omega)
  have e:=xlq l[i] x bp pr k hk;rw[zj,h5];simp only[zco];cases h6:zas l[i] x
  ·rw[h6]at e
   simp only[cond_false];rw[←ih];simp -implicitDefEqProofs only[go_sem,simprocAttr,h1,h2,h3,h4,e]
  ·rw[h6]at e
   simp only[cond_true];simp -implicitDefEqProofs only[go_sem,simprocAttr,h1,h2,h3,h4,e]
theorem yp4(x:Int×Int)(b bp:Bool)(pr:List (Int×Int))(k:Nat)(hk:pr[k]? =some x)(l:List (Int×Int))(hb:l.length<1000000):(zy T).call 143 [.sl b 2 (l.map q7),.fn 142 [.pp 1 [.sl bp 2 (pr.map q7)] 0 0,.pp 1 [.int .i64 k] 0 0]] [] 0 []=some (.bool (w7 x l),[],0,[]):=by
 have h:=xai x b bp pr k hk l hb 0 (by omega);rw[show((0:Nat):Int)=0 from rfl,List.drop_zero]at h
 have e:(zy T).call 211 [.sl b 2 (l.map q7),.fn 142 [.pp 1 [.sl bp 2 (pr.map q7)] 0 0,.pp 1 [.int .i64 k] 0 0]] [] 0 []=some (.int .i64 (zco x 0 l),[],0,[]):=by
  rw[xf0];simp -implicitDefEqProofs only[go_sem,simprocAttr,h]
 rw[xg0];simp -implicitDefEqProofs only[go_sem,simprocAttr,e,zbw,xdc]
theorem c47(b:Bool)(l:List (Int×Int))(hl:l.length<1000000):(zy T).call 47 [.sl b 2 (l.map q7)] [] 0 []=some (.sl true 2 (l.map q7),[],0,[]):=by
 rw[xfi];cases l with
 |nil=>simp -implicitDefEqProofs only[go_sem,simprocAttr]
 |cons p l=>
  have h8:=(ze (n:=l.length) (by simp at hl;omega)).1;simp -implicitDefEqProofs only[go_sem,simprocAttr,h8]
def zg7(nv s:Nat)(x:Int×Int):Bool:=((decide (x.1<0)||decide ((nv:Int)≤x.1))||decide (x.2<0))||decide ((s:Int)≤x.2)
def knP(nv s:Nat)(x:Int×Int):Int:=cond (zg7 nv s x) 10 0
theorem yp5(p:Pk)(ho:Ok p)(a b:Int):(zy T).call 140 [.agg [.int .i64 a,.int .i64 b],.pp 3 [zk p] 0 0] [] 0 []=some (.int .i64 (knP p.v.length (slots p) (a,b)),[],0,[]):=by
 rw[xg3];obtain⟨r0,g1,g2,g3⟩:=zql ho;unfold knP zg7;simp only;cases h1:decide (a<0)
 ·cases h2:decide ((p.v.length:Int)≤a)
  ·cases h3:decide (b<0)
   ·simp -implicitDefEqProofs only[go_sem,simprocAttr,zk,h1,h2,h3,g1,g2,g3,zbw,qo,Bool.false_or]
   ·simp -implicitDefEqProofs only[go_sem,simprocAttr,zk,h1,h2,h3,zbw,qo,Bool.false_or,Bool.true_or]
  ·simp -implicitDefEqProofs only[go_sem,simprocAttr,zk,h1,h2,zbw,qo,Bool.false_or,Bool.true_or]
 ·simp -implicitDefEqProofs only[go_sem,simprocAttr,zk,h1,qo,Bool.true_or]
theorem xbe(p:Pk)(hok:Ok p)(b:Bool)(l:List (Int×Int))(hb:l.length<1000000):∀i,i≤l.length→∀o:Option (List (Int)),ka o=i→
  (zy T).loop false [.code (.loop zkl),.inBlock 0,.code (.seq zmu .ret)] ⟨141,22,0,[(1,.fn 140 [.pp 3 [zk p] 0 0]),(5,kp o 0),(8,.sl b 2 (l.map q7)),(9,.int .i64 l.length),(10,.int .i64 i)],kc zx o 29,0,[]⟩=
   some (.ret (vv zx 0 1 (qj o ((l.drop i).map (fun x=>knP p.v.length (slots p) x)))),[],0,[]):=by
 refine xv l.length ?_ fun i hi ih o ho=> ?_
 ·intro o ho
  rw[zj];have h1:=xz l.length;cases o with
  |none=>
   simp -implicitDefEqProofs only[go_sem,simprocAttr,h1];simp[qj,vv]
  |some a=>
   simp -implicitDefEqProofs only[go_sem,simprocAttr,h1];simp[qj,vv]
 ·obtain⟨h1,h2,h3,h4,h5⟩:=zr hi (by omega)
  rw[zj,h5];have ih':=ih (qj o [((fun x=>knP p.v.length (slots p) x) l[i])]) (by rw[jz,ho];rfl);rw[jx]at ih';dsimp only at ih';cases o with
  |none=>
   have h8:=ze (n:=0) (by omega);simp only[jy,zi,z6,List.map_cons,List.map_nil,zx]at ih';simp -implicitDefEqProofs only[go_sem,simprocAttr,h1,h2,h3,h4,ih',h8.2,yp5 p hok]
  |some a=>
   have h9:a.length=i:=ho;have h8:=(ze (n:=a.length) (by omega)).1;simp only[qd,zi,z6,List.map_append,List.map_cons,List.map_nil,zx]at ih';simp -implicitDefEqProofs only[go_sem,simprocAttr,h1,h2,h3,h4,ih',h8,yp5 p hok]
theorem xlr(p:Pk)(hok:Ok p)(b:Bool)(l:List (Int×Int))(hb:l.length<1000000):(zy T).call 141 [.sl b 2 (l.map q7),.fn 140 [.pp 3 [zk p] 0 0]] [] 0 []=some (wt 1 (((l).map (fun x=>knP p.v.length (slots p) x)).map zx),[],0,[]):=by
 rw[xg2];have h:=xbe p hok b l hb 0 (by omega) none rfl;rw[show((0:Nat):Int)=0 from rfl,List.drop_zero,ji]at h;simp only[xk,xu]at h;simp -implicitDefEqProofs only[go_sem,simprocAttr,h]
def fwr(n:Int)(L:List (List Int)):List (List Int):=L.filter fun s=>decide ((s.length:Int)<n)
theorem ync(n:Int)(x:List Int)(L:List (List Int)):fwr n (x::L)=(bif decide ((x.length:Int)<n)then [x]else [])++fwr n L:=by
 unfold fwr;by_cases h:(x.length:Int)<n<;>simp[h]
theorem gA2{B L:zw}{N:Nat}(h:B.length=N):(B++L)[N+2]? =L[2]? :=by subst h;rw[List.getElem?_append_right (by omega)];congr 1;omega
abbrev zo9:Row:= .cells true false 22 [.ref 1]
def xna(H:zw)(out:List (Int×Int)):Prop:=
 (out= []∧∃fl,H[3]? =some (.cells true fl 48 [.sl false 0 []]))∨(out≠ []∧∃m fl,H[3]? =some (.cells true fl 48 [.ref m])∧H[m]? =some (.cells false true 100 (out.map q7))∧3<m∧m<H.length)
structure In45 (p:Pk) (L:List (List Int)) (H:zw) (out:List (Int×Int)):Prop where
 n:4≤H.length
 h0:H[0]? =some (.cells true true 34 [zk p])
 h1:H[1]? =some (qb L)
 h2:H[2]? =some zo9
 o:xna H out
theorem xc6(p:Pk)(L:List (List Int))(env:Den.Env)(he:xf env 6= .ptr 3 0 0)(H:zw)(out:List (Int×Int))(x:Int×Int)(hll:out.length<1000)(hI:In45 p L H out)(N:Nat)(hN:H.length=N):
  ∃H',In45 p L H' (out++ [x])∧runK (zy T) T true qg [.code zk1,.beginRound,.code zjj] ⟨45,38,N,(32,q7 x)::env,H,0,[]⟩=some (.round (some (.exit 1)),H',0,[]):=by
 obtain⟨hn,h0,h1,h2,ho⟩:=hI;have n3:3<N:=by omega
 have d1:decide (N<N+1)=true:=by simp
 have d2:decide (3<N+3)=true:=decide_eq_true (by omega);have d2':decide (3<N+2)=true:=decide_eq_true (by omega);rcases ho with⟨rfl,fl,h3⟩|⟨ho,m,fl,h3,hm,hm3,hmN⟩
 ·have h8:=(ze (n:=0) (by omega)).2
  refine⟨H.set 3 (.cells true false 48 [.ref (N+2)])++ [.cells true true 100 [q7 x],.cells false true 100 [q7 x],.cells false true 100 [q7 x]],⟨by simp;omega,?_,?_,?_,.inr ⟨by simp,N+2,false,?_,?_,by omega,by simp[hN]⟩⟩,?_⟩
  ·rw[List.getElem?_append_left (by simp;omega),List.getElem?_set_ne (by omega),h0]
  ·rw[List.getElem?_append_left (by simp;omega),List.getElem?_set_ne (by omega),h1]
  ·rw[List.getElem?_append_left (by simp;omega),List.getElem?_set_ne (by omega),h2]
  ·rw[List.getElem?_append_left (by simp;omega),List.getElem?_set_self (by omega)]
  ·rw[gA2 (by simp;exact hN)];rfl
  ·simp -implicitDefEqProofs only[go_sem,simprocAttr,he,h3,hN,n3,gA,gj,sA,List.getElem?_append_left,List.set_append_left,List.append_assoc,List.length_set,h8,d1,d2,d2',Nat.zero_shiftRight,Nat.and_zero,Nat.zero_or]
 ·have h8:=(ze (n:=out.length) (by omega)).1
  have d4:decide (m<N+2)=true:=decide_eq_true (by omega);have hmN':m<N:=by omega
  have hd3:(H.set m .dead)[3]? =some (.cells true fl 48 [.ref m]):=by rw[List.getElem?_set_ne (by omega),h3]
  refine⟨(H.set m .dead).set 3 (.cells true false 48 [.ref (N+2)])++ [.cells true true 100 [q7 x],.cells false true 100 [q7 x],.cells false true 100 ((out++ [x]).map q7)],⟨by simp;omega,?_,?_,?_,.inr ⟨by simp,N+2,false,?_,?_,by omega,by simp[hN]⟩⟩,?_⟩
  ·rw[List.getElem?_append_left (by simp;omega),List.getElem?_set_ne (by omega),List.getElem?_set_ne (by omega),h0]
  ·rw[List.getElem?_append_left (by simp;omega),List.getElem?_set_ne (by omega),List.getElem?_set_ne (by omega),h1]
  ·rw[List.getElem?_append_left (by simp;omega),List.getElem?_set_ne (by omega),List.getElem?_set_ne (by omega),h2]
  ·rw[List.getElem?_append_left (by simp;omega),List.getElem?_set_self (by simp;omega)]
  ·rw[gA2 (by simp;exact hN)];rfl
  ·simp only[List.map_append,List.map_cons,List.map_nil]
   simp -implicitDefEqProofs only[go_sem,simprocAttr,he,h3,hm,hd3,hN,n3,hmN',gA,gj,sA,List.getElem?_append_left,List.set_append_left,List.append_assoc,List.length_set,h8,d1,d2,d2',d4,Nat.zero_shiftRight,Nat.and_zero,Nat.zero_or]
def zfv(p:Pk)(x x0:List Int)(caps:List V)(env:Den.Env):Den.Env:=
 (31,.fn 197 caps)::(30,.sl (!x.isEmpty) 1 (x.map zx))::(29,zk p)::(28,.bool false)::(27,.int .i64 x0.length)::(26,.sl (!x0.isEmpty) 1 (x0.map zx))::(25,.ptr 1 0 0)::(24,.ref 1)::(23,.int .i64 x.length)::
  (22,.sl (!x.isEmpty) 1 (x.map zx))::(7,.sl (!x.isEmpty) 1 (x.map zx))::(21,.sl (!x.isEmpty) 1 (x.map zx))::env
theorem xe8(p:Pk)(x x0:List Int)(caps:List V)(env:Den.Env)(he:xf env 6= .ptr 3 0 0):xf (zfv p x x0 caps env) 6= .ptr 3 0 0:=by
 unfold zfv;simp -implicitDefEqProofs only[go_sem,simprocAttr,he]
def yf(p:Pk)(x x0:List Int)(caps:List V)(env:Den.Env)(H:zw)(d:Bool)(pd:Option Code)(N:Nat):Own:=⟨45,38,zfv p x x0 caps env,H,0,[32],zk1,zjj,d,pd,N⟩
theorem yvo(p:Pk)(ho:Ok p)(L:List (List Int))(x0:List Int)(hx0:L[0]? =some x0)(env:Den.Env)(he1:xf env 1= .ptr 0 0 0)(he4:xf env 4= .ptr 2 0 0)(he6:xf env 6= .ptr 3 0 0)(H:zw)(out:List (Int×Int))(hol:out.length<1000)
  (x:List Int)(hx:x.length<1000000)(hv:k9 p x)(hI:In45 p L H out)(N:Nat)(hN:H.length=N)(hlt:decide ((x0.length:Int)≤x.length)=false):
  ∃H',In45 p L H' (out++(kf p x).take 1)∧runK (zy T) T true qg [.code zc8,.beginRound,.code zc4] ⟨45,38,N,(21,jk x)::env,H,0,[]⟩=some (.round none,H',0,[]):=by
 obtain⟨caps,i1,i2,hcl,e1⟩:∃caps,xx caps= []∧xj caps=false∧zde caps (kf p x)∧(zy T).call 125 [zk p,.sl (!x.isEmpty) 1 (x.map zx)] [] 0 []=some (.fn 197 caps,[],0,[]):=
  ⟨zb3 p x,(zb2 p x).1,(zb2 p x).2,call125 p ho x,zga p ho (!x.isEmpty) 1 x hx hv (fun _=>rfl)⟩
 have hI0:=hI;obtain⟨hn,h0,h1,h2,_⟩:=hI;have d0:decide (0<(L.length:Int))=true:=decide_eq_true (by have:=(List.getElem?_eq_some_iff.1 hx0).1;omega);have h0':=h0;have e1':=e1;simp only[zk]at h0' e1'
 have start:∀R,(∀own',(zy T).call 197 (.yld (List.length ([]:xc))::caps) [] 0 ([]++ [yf p x x0 caps env H false none N])=some (.tup [],[],0,[]++ [own'])→
   runK (zy T) T true 99988 (match own'.pending with|some c=> .code c:: [.inBlock 2,.inBlock 1]|none=> [.inBlock 2,.inBlock 1]) ⟨own'.fn,own'.nt,N,own'.env,own'.H,own'.Fz,[]⟩=R→
   runK (zy T) T true qg [.code zc8,.beginRound,.code zc4] ⟨45,38,N,(21,jk x)::env,H,0,[]⟩=R):=by
  intro R own' hc hR;simp -implicitDefEqProofs only[go_sem,simprocAttr,he1,he4,h0',h1,h2,hN,d0,hx0,zbw,hlt,e1',i1];unfold yf zfv zk at hc;rw[zbp (f:= .tmp 31) (g:=197) (caps:=caps) (S:= []) (ps:= #[32]) rfl i1 i2 zal.1 zal.2.1 ze1 rfl hc];exact hR
 cases hxs:kf p x with
 |nil=>
  refine⟨H,by rw[List.take_nil,List.append_nil];exact hI0,?_⟩;refine start _ (yf p x x0 caps env H false none N) ?_ ?_
  ·rw[hxs]at hcl
   exact hcl _ _ true rfl
  ·simp only[yf]
   simp -implicitDefEqProofs only[go_sem,simprocAttr]
 |cons y ys=>
  obtain⟨H',hI',hr⟩:=xc6 p L (zfv p x x0 caps env) (xe8 p x x0 caps env he6) H out y hol hI0 N hN;refine⟨H',by rw[show(y::ys).take 1= [y]from rfl];exact hI',?_⟩
  have hY:=zbk (S:= []) (own:=yf p x x0 caps env H false none N) (by kernel_rfl) rfl (args:= [q7 y]) rfl (by
   simp only[yf];rw[hN];exact hr)
  have hY':(zy T).yld 0 [q7 y] [yf p x x0 caps env H false none N]=some (false,[yf p x x0 caps env H' true (some (.exit 1)) N]):=hY;refine start _ (yf p x x0 caps env H' true (some (.exit 1)) N) ?_ ?_
  ·rw[hxs]at hcl
   refine hcl _ _ false ?_;show(match (zy T).yld 0 [q7 y] [yf p x x0 caps env H false none N]with|some (true,S')=>qz T 0 (ys.map q7) S'|o=>o)=_;rw[hY'];rfl
  ·simp only[yf]
   simp -implicitDefEqProofs only[go_sem,simprocAttr]
theorem xmh(p:Pk)(L:List (List Int))(x0:List Int)(hx0:L[0]? =some x0)(env:Den.Env)(he4:xf env 4= .ptr 2 0 0)(H:zw)(out:List (Int×Int))(x:List Int)(hI:In45 p L H out)(N:Nat)(hlt:decide ((x0.length:Int)≤x.length)=true):
  runK (zy T) T true qg [.code zc8,.beginRound,.code zc4] ⟨45,38,N,(21,jk x)::env,H,0,[]⟩=some (.round (some (.exit 0)),H,0,[]):=by
 obtain⟨hn,h0,h1,h2,_⟩:=hI;have d0:decide (0<(L.length:Int))=true:=decide_eq_true (by have:=(List.getElem?_eq_some_iff.1 hx0).1;omega);simp -implicitDefEqProofs only[go_sem,simprocAttr,he4,h1,h2,d0,hx0,zbw,hlt]
def pfL(p:Pk)(k:Nat):List (List Int)→List (Int×Int)
 | []=> []
 |s::r=>bif decide ((k:Int)≤s.length)then []else(kf p s).take 1++pfL p k r
def zat(env:Den.Env)(H:zw)(d:Bool)(pd:Option Code):Own:=⟨45,38,env,H,0,[21],zc8,zc4,d,pd,0⟩
theorem yvj(p:Pk)(ho:Ok p)(L:List (List Int))(x0:List Int)(hx0:L[0]? =some x0)(env:Den.Env)(he1:xf env 1= .ptr 0 0 0)(he4:xf env 4= .ptr 2 0 0)(he6:xf env 6= .ptr 3 0 0):∀(xs:List (List Int)),(∀x∈xs,x.length<1000000∧k9 p x)→∀(H:zw) (out:List (Int×Int)),In45 p L H out→out.length+xs.length<900→
  ∃b H' pd,In45 p L H' (out++pfL p x0.length xs)∧(pd=none∨pd=some (.exit 0))∧qz T 0 (xs.map jk) [zat env H false none]=some (b,[zat env H' pd.isSome pd]):=by
 intro xs
 induction xs with
 |nil=>intro _ H out hI _;exact⟨true,H,none,by rw[show pfL p x0.length []= []from rfl,List.append_nil];exact hI,.inl rfl,rfl⟩
 |cons x xs ih=>
  intro hx H out hI hl;simp only[List.length_cons]at hl;obtain⟨x1,x2⟩:=hx x (by simp);cases hlt:decide ((x0.length:Int)≤x.length)
  ·obtain⟨H1,hI1,hr⟩:=yvo p ho L x0 hx0 env he1 he4 he6 H out (by omega) x x1 x2 hI H.length rfl hlt
   have hY:=zbk (S:= []) (own:=zat env H false none) (by kernel_rfl) rfl (args:= [jk x]) rfl hr;have hY':(zy T).yld 0 [jk x] [zat env H false none]=some (true,[zat env H1 false none]):=hY;have htl:((kf p x).take 1).length≤1:=by rw[List.length_take];omega
   obtain⟨b,H',pd,j1,j2,j3⟩:=ih (fun y hy=>hx y (by simp[hy])) H1 _ hI1 (by rw[List.length_append];omega);refine⟨b,H',pd,?_,j2,?_⟩
   ·rw[List.append_assoc]at j1
    rw[show pfL p x0.length (x::xs)=bif decide ((x0.length:Int)≤x.length)then []else(kf p x).take 1++pfL p x0.length xs from rfl,hlt];exact j1
   ·simp only[List.map_cons,qz]
    rw[hY'];exact j3
  ·have hr:=xmh p L x0 hx0 env he4 H out x hI H.length hlt
   have hY:=zbk (S:= []) (own:=zat env H false none) (by kernel_rfl) rfl (args:= [jk x]) rfl hr;have hY':(zy T).yld 0 [jk x] [zat env H false none]=some (false,[zat env H true (some (.exit 0))]):=hY;refine⟨false,H,some (.exit 0),?_,.inr rfl,?_⟩
   ·rw[show pfL p x0.length (x::xs)=bif decide ((x0.length:Int)≤x.length)then []else(kf p x).take 1++pfL p x0.length xs from rfl,hlt,cond_true,List.append_nil]
    exact hI
   ·simp only[List.map_cons,qz]
    rw[hY'];rfl
def zcx(p:Pk):Den.Env:= [(20,.fn 235 (ve p.c.length)),(19,.int .i64 p.c.length),(18,.sl p.cb 3 (p.c.map x8)),(17,.ptr 0 0 2),(6,.ptr 3 0 0),(15,.bool false),(14,.int .i64 0),(5,.int .i64 0),(4,.ptr 2 0 0),(13,.int .i64 0),
 (12,.ref 1),(9,.tup [.ref 1,.int .i64 0]),(11,.tup [.ref 1,.int .i64 0]),(10,zk p),(3,.int .i64 0),(2,.sl false 0 []),(1,.ptr 0 0 0),(0,zk p)]
theorem c45(p:Pk)(hf:p.fit)(h:xy p=0)(hs:Sok p)(hx:exA p≠ [])(x0:List Int)(hx0:(exA p)[0]? =some x0):(zy T).call 45 [zk p] [] 0 []=some (.tup [wt 2 ((pfL p x0.length (setsN p.c.length)).map q7),.int .i64 0],[],0,[]):=by
 have e:=zpd p hf h hs hx;have e1:=hs.c136;have hl:=hs.len;obtain⟨b,H',pd,j1,j2,j3⟩:=yvj p (j7 h) (exA p) x0 hx0 (zcx p) rfl rfl rfl (setsN p.c.length) hs.el [.cells true true 34 [zk p],qb (exA p),zo9,.cells true true 48 [.sl false 0 []]] [] ⟨by simp,rfl,rfl,rfl,.inl ⟨rfl,true,rfl⟩⟩ (by simp;omega);rw[List.nil_append]at j1
 have hc:(zy T).call 235 (.yld (List.length ([]:xc))::ve p.c.length) [] 0 ([]++ [⟨45,38,zcx p,[.cells true true 34 [zk p],qb (exA p),zo9,.cells true true 48 [.sl false 0 []]],0,(#[21]:Array Nat).toList,zc8,zc4,false,none,0⟩])=some (.tup [],[],0,[]++ [zat (zcx p) H' pd.isSome pd]):=
  zo8 _ _ 0 (by omega) _ _ b j3
 have start:∀R,zez (runK (zy T) T false 99981 (match pd with|some c=> .code c:: [.inBlock 0,.code (r45_11.seq .ret),.inScope zhk]|none=> [.inBlock 0,.code (r45_11.seq .ret),.inScope zhk]) ⟨45,38,0,zcx p,H',0,[]⟩)=R→(zy T).call 45 [zk p] [] 0 []=R:=by
  intro R hR;rw[yn7];simp only[zk]at e;simp -implicitDefEqProofs only[go_sem,simprocAttr,zk,e,e1];unfold zcx zk at hc;rw[zbp (f:= .tmp 20) (g:=235) (caps:=ve p.c.length) (S:= []) (ps:= #[21]) rfl rfl rfl zd9.1 zd9.2.1 zlr rfl hc];unfold zcx zk at hR;exact hR
 obtain⟨hn,h0,h1,h2,ho⟩:=j1;refine start _ ?_;unfold zcx;generalize pfL p x0.length (setsN p.c.length)=out at*;rcases ho with⟨rfl,fl,h3⟩|⟨hne,m,fl,h3,hm,_,_⟩
 ·rcases j2 with rfl|rfl
  ·simp -implicitDefEqProofs only[go_sem,simprocAttr,h3]
   rfl
  ·simp -implicitDefEqProofs only[go_sem,simprocAttr,h3]
   rfl
 ·rw[yue _ _ (by simpa using hne)]
  rcases j2 with rfl|rfl
  ·simp -implicitDefEqProofs only[go_sem,simprocAttr,h3,hm]
  ·simp -implicitDefEqProofs only[go_sem,simprocAttr,h3,hm]
theorem xka(p:Pk)(E:Int)(hE:¬E=0)(z:Nat)(H:zw)(h:(zy T).call 128 [zk p] [] 0 []=some (.tup [.sl false z [],.int .i64 E],H,0,[])):(zy T).call 45 [zk p] [] 0 []=some (.tup [.sl false 0 [],.int .i64 E],[],0,[]):=by
 rw[yn7];have h1:(E !=0)=true:=by simpa using hE
 simp only[zk]at h;simp -implicitDefEqProofs only[go_sem,simprocAttr,zk,h,h1,jd,Bool.not_false,Bool.or_true]
def hdP(p:Pk)(s:List Int):Int×Int:=((wc p s)[0]?).getD (0,0)
def zb1(p:Pk):List (List Int)→List (Int×Int)→Int
 |s::L,x::r=>bif w7 x (wc p s)then zb1 p L r else 19
 |_,_=>0
def zbz(p:Pk)(n:Int)(pr:List (Int×Int)):Int:=
 if kq n 0 p.c.length=0 then
  (if((pr.length:Int) !=(fwr n (setsN p.c.length)).length)then 2 else
   if fnz (pr.map (knP p.v.length (slots p)))=0 then zb1 p (fwr n (setsN p.c.length)) pr else fnz (pr.map (knP p.v.length (slots p))))
 else kq n 0 p.c.length
def zk8(H:zw)(l:List (List Int)):Prop:=1≤H.length∧
 ((l= []∧∃fl,H[0]? =some (.cells true fl 22 [.sl false 0 []]))∨(l≠ []∧∃m fl,H[0]? =some (.cells true fl 22 [.ref m])∧H[m]? =some (qb l)∧0<m∧m<H.length))
theorem yvp(env:Den.Env)(he:xf env 2= .ptr 0 0 0)(H:zw)(l:List (List Int))(x:List Int)(hll:l.length<1000)(hI:zk8 H l)(N:Nat)(hN:H.length=N):
  ∃H',zk8 H' (l++ [x])∧runK (zy T) T true qg [.code zgy,.beginRound,.code zf7] ⟨210,13,N,(7,jk x)::env,H,0,[]⟩=some (.round none,H',0,[]):=by
 obtain⟨hn,hI⟩:=hI;have n0:0<N:=by omega
 have d2:decide (0<N+2)=true:=decide_eq_true (by omega);rcases hI with⟨rfl,fl,h1⟩|⟨hl,m,fl,h1,hm,hm1,hmN⟩
 ·have h8:=(ze (n:=0) (by omega)).2
  refine⟨H.set 0 (.cells true false 22 [.ref (N+1)])++ [.cells false true 28 [jk x],.cells false true 28 [jk x]],⟨by simp,.inr ⟨by simp,N+1,false,?_,?_,by omega,by simp[hN]⟩⟩,?_⟩
  ·rw[List.getElem?_append_left (by simp;omega),List.getElem?_set_self (by omega)]
  ·rw[gj (by simp;exact hN)];rfl
  ·simp -implicitDefEqProofs only[go_sem,simprocAttr,he,h1,hN,n0,gA,gj,sA,List.getElem?_append_left,List.set_append_left,List.append_assoc,List.length_set,h8,d2,Nat.zero_shiftRight,Nat.and_zero,Nat.zero_or]
 ·have h8:=(ze (n:=l.length) (by omega)).1
  have d4:decide (m<N+1)=true:=decide_eq_true (by omega);have hmN':m<N:=by omega
  have hd1:(H.set m .dead)[0]? =some (.cells true fl 22 [.ref m]):=by rw[List.getElem?_set_ne (by omega),h1]
  refine⟨(H.set m .dead).set 0 (.cells true false 22 [.ref (N+1)])++ [.cells false true 28 [jk x],.cells false true 28 ((l++ [x]).map jk)],⟨by simp,.inr ⟨by simp,N+1,false,?_,?_,by omega,by simp[hN]⟩⟩,?_⟩
  ·rw[List.getElem?_append_left (by simp;omega),List.getElem?_set_self (by simp;omega)]
  ·rw[gj (by simp;exact hN)];rfl
  ·simp only[List.map_append,List.map_cons,List.map_nil]
   simp -implicitDefEqProofs only[go_sem,simprocAttr,he,h1,hm,hd1,hN,n0,hmN',gA,gj,sA,List.getElem?_append_left,List.set_append_left,List.append_assoc,List.length_set,h8,d2,d4,Nat.zero_shiftRight,Nat.and_zero,Nat.zero_or]
def zfw(n:Nat):Den.Env:= [(6,.fn 235 (ve n)),(4,.sl false 0 []),(2,.ptr 0 0 0),(0,.sl false 0 []),(1,.fn 235 (ve n))]
def zci(n:Nat)(H:zw):Own:=⟨210,13,zfw n,H,0,[7],zgy,zf7,false,none,0⟩
theorem yvk(n:Nat):∀(xs:List (List Int)) (H:zw) (l:List (List Int)),zk8 H l→l.length+xs.length<1000→∃H',zk8 H' (l++xs)∧qz T 0 (xs.map jk) [zci n H]=some (true,[zci n H']):=by
 intro xs
 induction xs with
 |nil=>intro H l hI _;exact⟨H,by rw[List.append_nil];exact hI,rfl⟩
 |cons x xs ih=>
  intro H l hI hl;simp only[List.length_cons]at hl;obtain⟨H1,hI1,hr⟩:=yvp (zfw n) rfl H l x (by omega) hI H.length rfl;have hy:=zbk (S:= []) (own:=zci n H) (by kernel_rfl) rfl (args:= [jk x]) rfl hr;obtain⟨H',j1,j2⟩:=ih H1 _ hI1 (by rw[List.length_append,List.length_singleton];omega);refine⟨H',by rw[List.append_assoc]at j1;exact j1,?_⟩;have hy':(zy T).yld 0 [jk x] [zci n H]=some (true,[zci n H1]):=hy;simp only[List.map_cons,qz];rw[hy'];exact j2
theorem xkm(n:Nat)(hl:(setsN n).length≤64)(hne:setsN n≠ []):∃H' m,H'[m]? =some (qb (setsN n))∧(zy T).call 210 [.sl false 0 [],.fn 235 (ve n)] [] 0 []=some (.ref m,H',0,[]):=by
 obtain⟨H',⟨i1,i2⟩,hy⟩:=yvk n (setsN n) [.cells true true 22 [.sl false 0 []]] [] ⟨by simp,.inl ⟨rfl,true,rfl⟩⟩ (by simp;omega);rw[List.nil_append]at i2;rcases i2 with⟨h,_⟩|⟨_,m,fl,h1,h2,_,_⟩
 ·exact absurd h hne
 refine⟨H',m,h2,?_⟩
 have e:(zy T).call 235 (.yld (List.length ([]:xc))::ve n) [] 0 ([]++ [⟨210,13,zfw n,[.cells true true 22 [.sl false 0 []]],0,(#[7]:Array Nat).toList,zgy,zf7,false,none,0⟩])=some (.tup [],[],0,[]++ [zci n H']):=
  zo8 _ _ 0 (by omega) _ _ true hy
 rw[xf1];simp -implicitDefEqProofs only[go_sem,simprocAttr];unfold zfw at e;rw[zbp (f:= .tmp 6) (g:=235) (caps:=ve n) (S:= []) (ps:= #[7]) rfl rfl rfl zd9.1 zd9.2.1 zlr rfl e];simp only[zci,zfw];simp -implicitDefEqProofs only[go_sem,simprocAttr,h1]
theorem xls(n:Nat)(hl:(setsN n).length≤64)(hne:setsN n≠ []):(zy T).call 138 [.fn 235 (ve n)] [] 0 []=some (.ref 0,[qb (setsN n)],0,[]):=by
 obtain⟨H',m,h1,h2⟩:=xkm n hl hne;rw[xg5];simp -implicitDefEqProofs only[go_sem,simprocAttr,h1,h2]
theorem yp6(n:Int)(s:List Int):(zy T).call 139 [.sl (!s.isEmpty) 1 (s.map zx),.pp 1 [.int .i64 n] 0 0] [] 0 []=some (.bool (decide (n≤(s.length:Int))),[],0,[]):=by
 rw[xg4];simp -implicitDefEqProofs only[go_sem,simprocAttr,zbw]
abbrev cN(n:Int):Row:= .cells true true 3 [.int .i64 n]
abbrev f139:V:= .fn 139 [.ptr 1 0 0]
structure CutN (n:Int) (l:List (List Int)) (k:Nat):Prop where
 le:k≤l.length
 ha:∀i (h:i<l.length),i<k→(l[i].length:Int)<n
 hb:∀i (h:i<l.length),k≤i→n≤(l[i].length:Int)
 hm:l.length<1000
 h0:0<l.length
def zbe(l:List (List Int))(n:Int)(i:Nat)(z:Nat):Option Out:=
 (zy T).loop false [.code (.loop zgj),.inBlock 0,.code (.seq zhy .ret)]
  ⟨199,19,2,[(0,.ref 0),(1,f139),(7,.int .i64 l.length),(8,.int .i64 i)],[qb l,cN n],z,[]⟩
theorem zlk(n:Int)(l:List (List Int))(k:Nat)(hc:CutN n l k)(i:Nat)(hi:i<l.length)(z:Nat)(hz:z=0∨z=2):zbe l n i z=if i<k then zbe l n (i+1) 2 else some (.ret (.int .i64 i),[qb l,cN n],2,[]):=by
 have hm:=hc.hm;obtain⟨h1,h2,h3,h4,h5⟩:=zr hi (by omega);have e:=yp6 n l[i];by_cases h:i<k
 ·have hb:decide (n≤(l[i].length:Int))=false:=by have:=hc.ha i hi h;simp;omega
  rw[if_pos h]
  conv=>lhs;unfold zbe;rw[zj]
  unfold zbe;rcases hz with rfl|rfl
  ·simp -implicitDefEqProofs only[go_sem,simprocAttr,h1,h2,h3,h4,e,hb]
  ·simp -implicitDefEqProofs only[go_sem,simprocAttr,h1,h2,h3,h4,e,hb]
 ·have hb:decide (n≤(l[i].length:Int))=true:=by have:=hc.hb i hi (by omega);simp;omega
  rw[if_neg h];unfold zbe;rw[zj];rcases hz with rfl|rfl
  ·simp -implicitDefEqProofs only[go_sem,simprocAttr,h1,h2,h3,h4,e,hb]
  ·simp -implicitDefEqProofs only[go_sem,simprocAttr,h1,h2,h3,h4,e,hb]
theorem xan(n:Int)(l:List (List Int))(k:Nat)(hc:CutN n l k):∀i,i≤k→zbe l n i 2=some (.ret (.int .i64 (if k=l.length then -1 else k)),[qb l,cN n],2,[]):=by
 have hm:=hc.hm;have hn:=hc.le;refine xv k ?_ fun i hi ih=> ?_
 ·by_cases hE:k=l.length
  ·have h1:=xz l.length
   unfold zbe;rw[if_pos hE,zj];subst hE;simp -implicitDefEqProofs only[go_sem,simprocAttr,h1]
  ·rw[zlk n l k hc k (by omega) 2 (.inr rfl),if_neg (by omega),if_neg hE]
 ·rw[zlk n l k hc i (by omega) 2 (.inr rfl),if_pos hi,ih]
theorem xkr(n:Int)(l:List (List Int))(k:Nat)(hc:CutN n l k):(zy T).call 199 [.ref 0,f139] [qb l,cN n] 0 []=some (.int .i64 (if k=l.length then -1 else k),[qb l,cN n],2,[]):=by
 have h:zbe l n 0 0=some (.ret (.int .i64 (if k=l.length then -1 else k)),[qb l,cN n],2,[]):=by
  have h0:=hc.h0;rw[zlk n l k hc 0 h0 0 (.inl rfl)];by_cases h:0<k
  ·rw[if_pos h,xan n l k hc 1 (by omega)]
  ·rw[if_neg h,if_neg (by omega),show k=0 by omega]
 unfold zbe at h;rw[show((0:Nat):Int)=0 from rfl]at h;rw[yoc];simp -implicitDefEqProofs only[go_sem,simprocAttr,h]
theorem xj6(n:Int)(l:List (List Int))(k:Nat)(hc:CutN n l k)(kk:V→Prog)(S:xc)(rd wr fr:Nat)(sk:Bool)(K:V→zw→Nat→xc→FP→Option Out):(callP (zy T) T 199 [.ref 0,.fn 139 [.ptr 1 0 0]] kk).go none [.cells false true 28 (l.map jk),.cells true true 3 [.int .i64 n]] 0 S ⟨rd,wr,fr,sk⟩ K=
  (kk (.int .i64 (if k=l.length then -1 else k))).go none [.cells false true 28 (l.map jk),.cells true true 3 [.int .i64 n]] 2 S ⟨rd|||bit 0|||bit 1|||bit 0|||bit 1,wr|||bit 0|||bit 1|||bit 0|||bit 1,fr|||bit 1,sk⟩ K:=by
 refine(zn9 (x:=0) (y:=1) yns.1 rfl kk (fun k'=>zlt (by omega) rfl rfl 9996 k') rfl rfl rfl rfl rfl rfl (xkr n l k hc) rfl).trans ?_;simp -implicitDefEqProofs only[go_sem,simprocAttr]
def zk5(l:List (List Int))(n:Int)(k j:Nat):Option Out:=
 (zy T).loop false [.code (.loop zgn),.inBlock 0,.code (.seq zh2 (.seq zh1 .ret))]
  ⟨129,42,2,[(0,.ref 0),(1,f139),(5,.int .i64 k),(6,.int .i64 j)],[qb l,cN n],2,[]⟩
theorem xbh(n:Int)(l:List (List Int))(k:Nat)(hc:CutN n l k):∀j,j≤l.length→k≤j→zk5 l n k j=some (.ret (.sub 0 0 k),[.cells false true 28 (clr l k),cN n],2,[]):=by
 have hm:=hc.hm;have hn:=hc.le;refine xv l.length ?_ fun j hj ih=> ?_
 ·intro _
  unfold zk5;rw[zj];have h1:=xz l.length;have d1:decide (k≤l.length)=true:=decide_eq_true hn;have d2:decide (0≤(k:Int))=true:=decide_eq_true (by omega);have d3:decide (k≤l.length∧l.length≤l.length)=true:=decide_eq_true ⟨hn,Nat.le_refl _⟩;have d4:decide (0≤k∧k≤(List.take k (List.map jk l)).length+((List.replicate (l.length- k) (V.sl false 0 [])).length+(List.drop (k+(l.length- k)) (List.map jk l)).length))=true:=decide_eq_true ⟨Nat.zero_le _,by simp;omega⟩;simp -implicitDefEqProofs only[go_sem,simprocAttr,h1,d1,d2,d3,d4,Nat.sub_zero]
 ·intro hAj
  obtain⟨h1,h2,h3,h4,h5⟩:=zr hj (by omega);have e:=yp6 n l[j];have hb:decide (n≤(l[j].length:Int))=true:=by have:=hc.hb j hj hAj;simp;omega
  rw[←ih (by omega)];unfold zk5
  conv=>lhs;rw[zj]
  simp -implicitDefEqProofs only[go_sem,simprocAttr,h1,h2,h3,h4,e,hb]
theorem xlw(n:Int)(l:List (List Int))(k:Nat)(hc:CutN n l k):(zy T).call 129 [.ref 0,f139] [qb l,cN n] 0 []=if k=l.length then some (.ref 0,[qb l,cN n],2,[])else some (.sub 0 0 k,[.cells false true 28 (clr l k),cN n],2,[]):=by
 rw[yof];have e:=xj6 n l k hc;have hm:=hc.hm;have hn:=hc.le;by_cases hE:k=l.length
 ·rw[if_pos hE]
  simp only[if_pos hE]at e;simp -implicitDefEqProofs only[go_sem,simprocAttr,e]
 ·rw[if_neg hE]
  simp only[if_neg hE]at e;have hb:((k:Int)== -1)=false:=by simp
  have hw:IntKind.i64.wrap ((k:Int)+1)=((k+1:Nat):Int):=by rw[wrap64]<;>omega
  have h:=xbh n l k hc (k+1) (by omega) (by omega);unfold zk5 at h;simp -implicitDefEqProofs only[go_sem,simprocAttr,e,hb,hw,h]
theorem yua(n:Int):∀(l:List (List Int)),l.Pairwise (fun a b=>a.length≤b.length)→∃k,k≤l.length∧fwr n l=l.take k∧(∀i (h:i<l.length),i<k→(l[i].length:Int)<n)∧(∀i (h:i<l.length),k≤i→n≤(l[i].length:Int)):=by
 intro l
 induction l with
 |nil=>intro _;exact⟨0,by simp,by simp[fwr],by intro i h;exact absurd h (by simp),by intro i h;exact absurd h (by simp)⟩
 |cons a r ih=>
  intro hp;obtain⟨ha,hp2⟩:=List.pairwise_cons.1 hp;by_cases h:(a.length:Int)<n
  ·obtain⟨k,h1,h2,h3,h4⟩:=ih hp2
   refine⟨k+1,by simp;omega,?_,?_,?_⟩
   ·rw[ync,h2,decide_eq_true h,cond_true,List.take_succ_cons];rfl
   ·intro i hi hn
    cases i with
    |zero=>exact h
    |succ i=>simpa using h3 i (by simpa using hi) (by omega)
   ·intro i hi hn
    cases i with
    |zero=>omega
    |succ i=>simpa using h4 i (by simpa using hi) (by omega)
  ·have hall:∀s∈a::r,n≤(s.length:Int):=by
    intro s hs;rcases List.mem_cons.1 hs with rfl|hs
    ·omega
    ·have:=ha s hs;omega
   refine⟨0,by simp,?_,fun i _ h=>by omega,fun i hi _=>hall _ (List.getElem_mem hi)⟩;unfold fwr;rw[List.take_zero,List.filter_eq_nil_iff];intro s hs;have:=hall s hs;simp;omega
def zb0(p:Pk):List (List Int)→List (Int×Int)→Int
 |s::L,x::r=>bif w7 x (kf p s)then zb0 p L r else 19
 |_,_=>0
def zeo(p:Pk)(W:List (List Int))(R:List V)(pr:List (Int×Int))(i z:Nat):Option Out:=
 (zy T).loop false [.code (.loop zgg),.inBlock 0,.code (.seq zht .ret)]
  ⟨46,67,0,[(3,.ptr 0 0 0),(5,.ptr 1 0 0),(51,.ref 2),(52,.int .i64 W.length),(53,.int .i64 i)],[.cells true true 34 [zk p],.cells true true 48 [.sl true 2 (pr.map q7)],.cells false true 28 R],z,[]⟩
theorem xaa(p:Pk)(ho:Ok p)(W:List (List Int))(hW:W.length<1000)(hel:∀x∈W,x.length<1000000∧k9 p x)(R:List V)(hR:∀i (h:i<W.length),R[i]? =some (jk W[i]))(hlen:R.length=W.length)(pr:List (Int×Int))(hp:pr.length=W.length):∀i,i≤W.length→∀z,z=1∨z=3→zeo p W R pr i z=some (.ret (.int .i64 (zb0 p (W.drop i) (pr.drop i))),[],0,[]):=by
 refine xv W.length ?_ fun i hi ih=> ?_
 ·intro z hz
  unfold zeo;have h1:=xz W.length;rw[zj,List.drop_of_length_le (Nat.le_refl _),List.drop_of_length_le (by omega)];rcases hz with rfl|rfl
  ·simp -implicitDefEqProofs only[go_sem,simprocAttr,zk,h1]
   rfl
  ·simp -implicitDefEqProofs only[go_sem,simprocAttr,zk,h1]
   rfl
 ·intro z hz
  obtain⟨h1,h2,h3,h4,h5⟩:=zr hi (by omega);obtain⟨g1,g2,g3,g4,g5⟩:=zr (l:=pr) (i:=i) (by omega) (by omega);obtain⟨x1,x2⟩:=hel _ (List.getElem_mem hi);have hr:=hR i hi;rw[h5,g5];simp only[zb0];generalize W[i]=x at*;have hy3:=g3;generalize pr[i]'(by omega)=y at*
  obtain⟨caps,i1,i2,hcl,e1⟩:∃caps,xx caps= []∧xj caps=false∧zde caps (kf p x)∧(zy T).call 125 [zk p,.sl (!x.isEmpty) 1 (x.map zx)] [] 0 []=some (.fn 197 caps,[],0,[]):=
   ⟨zb3 p x,(zb2 p x).1,(zb2 p x).2,call125 p ho x,zga p ho (!x.isEmpty) 1 x x1 x2 (fun _=>rfl)⟩
  have hul:=zp8 ho x;have e2:=yqa caps i1 i2 (kf p x) (by omega) hcl;have e3:=yp4 y (!((kf p x).map q7).isEmpty) true pr i hy3 (kf p x) (by omega);simp only[zk]at e1;cases h6:w7 y (kf p x)
  ·rw[h6]at e3
   simp only[cond_false];unfold zeo;rw[zj];rcases hz with rfl|rfl
   ·simp -implicitDefEqProofs only[go_sem,simprocAttr,zk,h1,h2,hlen,hr,h4,e1,i1,i2,e2,e3]
   ·simp -implicitDefEqProofs only[go_sem,simprocAttr,zk,h1,h2,hlen,hr,h4,e1,i1,i2,e2,e3]
  ·rw[h6]at e3
   simp only[cond_true];rw[←ih 3 (.inr rfl)]
   conv=>lhs;unfold zeo;rw[zj]
   unfold zeo;rcases hz with rfl|rfl
   ·simp -implicitDefEqProofs only[go_sem,simprocAttr,zk,h1,h2,hlen,hr,h4,e1,i1,i2,e2,e3]
   ·simp -implicitDefEqProofs only[go_sem,simprocAttr,zk,h1,h2,hlen,hr,h4,e1,i1,i2,e2,e3]
def zen(p:Pk)(W:List (List Int))(R:List V)(pr:List (Int×Int))(i z:Nat):Option Out:=
 (zy T).loop false [.code (.loop zgg),.inBlock 0,.code (.seq zht .ret)]
  ⟨46,67,0,[(3,.ptr 0 0 0),(5,.ptr 1 0 0),(51,.sub 2 0 W.length),(52,.int .i64 W.length),(53,.int .i64 i)],[.cells true true 34 [zk p],.cells true true 48 [.sl true 2 (pr.map q7)],.cells false true 28 R],z,[]⟩
theorem yz9(p:Pk)(ho:Ok p)(W:List (List Int))(hW:W.length<1000)(hel:∀x∈W,x.length<1000000∧k9 p x)(R:List V)(hR:∀i (h:i<W.length),R[i]? =some (jk W[i]))(pr:List (Int×Int))(hp:pr.length=W.length):∀i,i≤W.length→∀z,z=1∨z=3→zen p W R pr i z=some (.ret (.int .i64 (zb0 p (W.drop i) (pr.drop i))),[],0,[]):=by
 refine xv W.length ?_ fun i hi ih=> ?_
 ·intro z hz
  unfold zen;have h1:=xz W.length;rw[zj,List.drop_of_length_le (Nat.le_refl _),List.drop_of_length_le (by omega)];rcases hz with rfl|rfl
  ·simp -implicitDefEqProofs only[go_sem,simprocAttr,zk,h1]
   rfl
  ·simp -implicitDefEqProofs only[go_sem,simprocAttr,zk,h1]
   rfl
 ·intro z hz
  obtain⟨h1,h2,h3,h4,h5⟩:=zr hi (by omega);obtain⟨g1,g2,g3,g4,g5⟩:=zr (l:=pr) (i:=i) (by omega) (by omega);obtain⟨x1,x2⟩:=hel _ (List.getElem_mem hi);have hr:=hR i hi;rw[h5,g5];simp only[zb0];generalize W[i]=x at*;have hy3:=g3;generalize pr[i]'(by omega)=y at*
  obtain⟨caps,i1,i2,hcl,e1⟩:∃caps,xx caps= []∧xj caps=false∧zde caps (kf p x)∧(zy T).call 125 [zk p,.sl (!x.isEmpty) 1 (x.map zx)] [] 0 []=some (.fn 197 caps,[],0,[]):=
   ⟨zb3 p x,(zb2 p x).1,(zb2 p x).2,call125 p ho x,zga p ho (!x.isEmpty) 1 x x1 x2 (fun _=>rfl)⟩
  have hul:=zp8 ho x;have e2:=yqa caps i1 i2 (kf p x) (by omega) hcl;have e3:=yp4 y (!((kf p x).map q7).isEmpty) true pr i hy3 (kf p x) (by omega);simp only[zk]at e1;cases h6:w7 y (kf p x)
  ·rw[h6]at e3
   simp only[cond_false];unfold zen;rw[zj];rcases hz with rfl|rfl
   ·simp -implicitDefEqProofs only[go_sem,simprocAttr,zk,h1,h2,hr,h4,e1,i1,i2,e2,e3]
   ·simp -implicitDefEqProofs only[go_sem,simprocAttr,zk,h1,h2,hr,h4,e1,i1,i2,e2,e3]
  ·rw[h6]at e3
   simp only[cond_true];rw[←ih 3 (.inr rfl)]
   conv=>lhs;unfold zen;rw[zj]
   unfold zen;rcases hz with rfl|rfl
   ·simp -implicitDefEqProofs only[go_sem,simprocAttr,zk,h1,h2,hr,h4,e1,i1,i2,e2,e3]
   ·simp -implicitDefEqProofs only[go_sem,simprocAttr,zk,h1,h2,hr,h4,e1,i1,i2,e2,e3]
abbrev u0(p:Pk)(pr:List (Int×Int)):List Int:=pr.map fun x=>knP p.v.length (slots p) x
def zjf(p:Pk)(n:Int)(pr:List (Int×Int)):Int:=
 if kq n 0 p.c.length=0 then
  (if fnz [cond (((fwr n (setsN p.c.length)).length:Int) !=pr.length) 2 0,fnz (u0 p pr)]=0 then zb0 p (fwr n (setsN p.c.length)) pr
   else fnz [cond (((fwr n (setsN p.c.length)).length:Int) !=pr.length) 2 0,fnz (u0 p pr)])
 else kq n 0 p.c.length
theorem c46(p:Pk)(hf:p.fit)(h0:xy p=0)(hs:Sok p)(hne:setsN p.c.length≠ [])(hpw:(setsN p.c.length).Pairwise (fun a b=>a.length≤b.length))(n:Int)(pr:List (Int×Int))(hpr:pr.length<1000):
  (zy T).call 46 [zk p,.int .i64 n,.sl true 2 (pr.map q7)] [] 0 []=some (.int .i64 (zjf p n pr),[],0,[]):=by
 rw[xfj];have ho:=j7 h0;have e1:=c23 p hf;rw[h0]at e1;have e2:=zpb n 0 p.c.length;unfold zjf;simp only[zk]at e1;cases hr:(kq n 0 p.c.length !=0)
 ·have hr0:kq n 0 p.c.length=0:=by simpa using hr
  rw[if_pos hr0];have e3:=hs.c136;have e4:=xls p.c.length hs.len hne;obtain⟨k,k1,k2,k3,k4⟩:=yua n (setsN p.c.length) hpw;have hlen:=hs.len;have hc:CutN n (setsN p.c.length) k:=⟨k1,k3,k4,by omega,by cases hq:setsN p.c.length with|nil=>exact absurd hq hne|cons a r=>simp⟩;have e5:=xlw n (setsN p.c.length) k hc;have e6:=xlr p ho true pr (by omega);have t1:List.map zx (List.map (fun x=>knP p.v.length (slots p) x) pr)=List.map (fun n=>V.int .i64 n) (u0 p pr):=rfl;rw[t1]at e6;have e7:=fun b=>va b (u0 p pr) (by simp;omega);rw[k2];have hel:∀x∈(setsN p.c.length).take k,x.length<1000000∧k9 p x:=fun x hx=>hs.el x (List.mem_of_mem_take hx);have hWl:((setsN p.c.length).take k).length=k:=by rw[List.length_take];omega
  generalize setsN p.c.length=l at*;have e8:=zjm true (cond ((k:Int) !=pr.length) 2 0) (fnz (u0 p pr));rw[hWl];simp only[zk]at e6;by_cases hE:k=l.length
  ·rw[if_pos hE]at e5
   have e9:∀(kk:V→Prog) (S:xc) (rd wr fr:Nat) (sk:Bool) (K:V→zw→Nat→xc→FP→Option Out) (r0 r2:Row),(callP (zy T) T 129 [.ref 3,.fn 139 [.ptr 1 0 0]] kk).go none [r0,.cells true true 3 [.int .i64 n],r2,.cells false true 28 (l.map jk)] 0 S ⟨rd,wr,fr,sk⟩ K=
     (kk (.ref 3)).go none [r0,.cells true true 3 [.int .i64 n],r2,.cells false true 28 (l.map jk)] 2 S ⟨rd|||bit 3|||bit 1|||bit 3|||bit 1,wr|||bit 3|||bit 1|||bit 3|||bit 1,fr|||bit 1,sk⟩ K:=by
    intro kk S rd wr fr sk K r0 r2;refine(zn9 (x:=3) (y:=1) zi4.1 rfl kk (fun k'=>zlt (by omega) rfl rfl 9996 k') rfl rfl rfl rfl rfl rfl e5 rfl).trans ?_;simp -implicitDefEqProofs only[go_sem,simprocAttr];rfl
   have htk:l.take k=l:=by rw[hE,List.take_length]
   cases hz:(fnz [cond ((k:Int) !=pr.length) 2 0,fnz (u0 p pr)] !=0)
   ·have hz0:fnz [cond ((k:Int) !=pr.length) 2 0,fnz (u0 p pr)]=0:=by simpa using hz
    rw[if_pos hz0,htk]
    have hpl:pr.length=l.length:=by
     have:=(zi1 hz0).1;cases hq:((k:Int) !=pr.length)
     ·simp at hq;omega
     ·rw[hq]at this;cases this
    have hloop:=xaa p ho l (by omega) (by rw[htk]at hel;exact hel) (l.map jk) (fun i h=>by rw[List.getElem?_map,List.getElem?_eq_getElem h];rfl) (by simp) pr hpl 0 (by omega) 1 (.inl rfl);rw[List.drop_zero,List.drop_zero]at hloop;unfold zeo at hloop;simp only[show((0:Nat):Int)=0 from rfl,zk]at hloop;rw[←hE]at hloop;have hlE:(l.length:Int)=(k:Int):=by rw[hE]
    simp -implicitDefEqProofs only[go_sem,simprocAttr,zk,e1,e2,hr,e3,e4,e9,hlE,e6,e7,qo,e8,hz,hloop]
   ·have hz0:¬fnz [cond ((k:Int) !=pr.length) 2 0,fnz (u0 p pr)]=0:=by simpa using hz
    rw[if_neg hz0];have hlE:(l.length:Int)=(k:Int):=by rw[hE]
    simp -implicitDefEqProofs only[go_sem,simprocAttr,zk,e1,e2,hr,e3,e4,e9,hlE,e6,e7,qo,e8,hz]
  ·rw[if_neg hE]at e5
   have e9:∀(kk:V→Prog) (S:xc) (rd wr fr:Nat) (sk:Bool) (K:V→zw→Nat→xc→FP→Option Out) (r0 r2:Row),(callP (zy T) T 129 [.ref 3,.fn 139 [.ptr 1 0 0]] kk).go none [r0,.cells true true 3 [.int .i64 n],r2,.cells false true 28 (l.map jk)] 0 S ⟨rd,wr,fr,sk⟩ K=
     (kk (.sub 3 0 k)).go none [r0,.cells true true 3 [.int .i64 n],r2,.cells false true 28 (clr l k)] 2 S ⟨rd|||bit 3|||bit 1|||bit 3|||bit 1,wr|||bit 3|||bit 1|||bit 3|||bit 1,fr|||bit 1,sk⟩ K:=by
    intro kk S rd wr fr sk K r0 r2;refine(zn9 (x:=3) (y:=1) zi4.1 rfl kk (fun k'=>zlt (by omega) rfl rfl 9996 k') rfl rfl rfl rfl rfl rfl e5 rfl).trans ?_;simp -implicitDefEqProofs only[go_sem,simprocAttr];rfl
   have hRR:∀i (h:i<(l.take k).length),(clr l k)[i]? =some (jk (l.take k)[i]):=by
    intro i h;rw[hWl]at h;have hil:i<l.length:=by omega
    rw[List.getElem?_append_left (by simp;omega),List.getElem?_take_of_lt h,List.getElem?_map,List.getElem?_eq_getElem hil,List.getElem_take];rfl
   generalize clr l k=R at*;cases hz:(fnz [cond ((k:Int) !=pr.length) 2 0,fnz (u0 p pr)] !=0)
   ·have hz0:fnz [cond ((k:Int) !=pr.length) 2 0,fnz (u0 p pr)]=0:=by simpa using hz
    rw[if_pos hz0]
    have hpl:pr.length=(l.take k).length:=by
     have:=(zi1 hz0).1;rw[hWl];cases hq:((k:Int) !=pr.length)
     ·simp at hq;omega
     ·rw[hq]at this;cases this
    have hloop:=yz9 p ho (l.take k) (by omega) hel R hRR pr hpl 0 (by omega) 1 (.inl rfl);rw[List.drop_zero,List.drop_zero]at hloop;unfold zen at hloop;simp only[show((0:Nat):Int)=0 from rfl,zk,hWl]at hloop;simp -implicitDefEqProofs only[go_sem,simprocAttr,zk,e1,e2,hr,e3,e4,e9,e6,e7,qo,e8,hz,hloop]
   ·have hz0:¬fnz [cond ((k:Int) !=pr.length) 2 0,fnz (u0 p pr)]=0:=by simpa using hz
    rw[if_neg hz0];simp -implicitDefEqProofs only[go_sem,simprocAttr,zk,e1,e2,hr,e3,e4,e9,e6,e7,qo,e8,hz]
 ·have hr0:¬kq n 0 p.c.length=0:=by simpa using hr
  rw[if_neg hr0];simp -implicitDefEqProofs only[go_sem,simprocAttr,zk,e1,e2,hr]
theorem xjp(p:Pk):∀(L:List (List Int)) (r:List (Int×Int)),zb0 (zp p) L r=zb1 p L r:=by
 intro L
 induction L with
 |nil=>intro r;cases r<;>rfl
 |cons s L ih=>
  intro r;cases r with
  |nil=>rfl
  |cons x r=>
   simp only[zb0,zb1,zg6,ih]
theorem zo1(p:Pk)(n:Int)(pr:List (Int×Int)):zjf (zp p) n pr=zbz p n pr:=by
 unfold zjf zbz;have hv:(zp p).v.length=p.v.length:=by unfold zp;simp
 have hk:u0 (zp p) pr=pr.map (knP p.v.length (slots p)):=by unfold u0;rw[hv,zhe]
 rw[zck,hk,xjp];generalize fwr n (setsN p.c.length)=W;generalize fnz (pr.map (knP p.v.length (slots p)))=E;by_cases h0:kq n 0 p.c.length=0
 ·rw[if_pos h0,if_pos h0]
  by_cases hq:pr.length=W.length
  ·have h1:(((W.length:Int)) !=pr.length)=false:=by simp;omega
   have h2:(((pr.length:Int)) !=W.length)=false:=by simp;omega
   rw[h1,h2,if_neg (by simp:¬(false=true))];simp only[cond_false];rw[yne rfl]
  ·have h1:(((W.length:Int)) !=pr.length)=true:=by simp;omega
   have h2:(((pr.length:Int)) !=W.length)=true:=by simp;omega
   rw[h1,h2,if_pos rfl];simp only[cond_true];rw[if_neg (by simp[fnz])];rfl
 ·rw[if_neg h0,if_neg h0]
theorem ys5{p:Pk}{x0:List Int}(hx:(kj p)[0]? =some x0)(hp:(kj p).Pairwise (fun a b=>a.length≤b.length)){s:List Int}(hs:s∈setsN p.c.length)(hl:(s.length:Int)<x0.length):wc p s≠ []:=by
 intro he;have hm:s∈kj p:=List.mem_filter.2 ⟨hs,by rw[he];rfl⟩;cases hc:kj p with
 |nil=>rw[hc]at hm;cases hm
 |cons a r=>
  rw[hc]at hm hx hp;obtain rfl:a=x0:=Option.some.inj hx;rcases List.mem_cons.1 hm with rfl|hm
  ·omega
  ·have:=(List.pairwise_cons.1 hp).1 s hm
   omega
theorem yww(p:Pk)(k:Nat):∀(L:List (List Int)),L.Pairwise (fun a b=>a.length≤b.length)→(∀s∈L,(s.length:Int)<k→wc p s≠ [])→pfL (zp p) k L=(fwr k L).map (hdP p):=by
 intro L
 induction L with
 |nil=>intro _ _;rfl
 |cons s r ih=>
  intro hp hn;obtain⟨ha,hp2⟩:=List.pairwise_cons.1 hp;rw[show pfL (zp p) k (s::r)=bif decide ((k:Int)≤s.length)then []else(kf (zp p) s).take 1++pfL (zp p) k r from rfl,ync];by_cases h:(s.length:Int)<k
  ·have h1:decide ((k:Int)≤s.length)=false:=by simp;omega
   rw[h1,decide_eq_true h,cond_false,cond_true,zg6,ih hp2 (fun t ht=>hn t (by simp[ht])),List.map_append];congr 1;have:=hn s (by simp) h;unfold hdP;cases hc:wc p s with
   |nil=>exact absurd hc this
   |cons a t=>simp[hc]
  ·have h1:decide ((k:Int)≤s.length)=true:=by simp;omega
   have h2:fwr (k:Int) r= []:=by
    unfold fwr;rw[List.filter_eq_nil_iff];intro t ht;have:=ha t ht;simp;omega
   rw[h1,decide_eq_false h,cond_true,cond_false,h2];rfl
theorem c87(a b:Int):(zy T).call 87 [.int .i64 a,.int .i64 b] [] 0 []=some (jq (a,b),[],0,[]):=by
 rw[xfg];simp -implicitDefEqProofs only[go_sem,simprocAttr]
def smP(p:Pk):Bool:=(((shP p&&decide ((p.c.length:Int)≤5))&&decide ((p.v.length:Int)≤6))&&(xy p==0))&&decide ((slots p:Int)≤4)
theorem c98(p:Pk):(zy T).call 98 [zk p] [] 0 []=some (.bool (smP p),[],0,[]):=by
 rw[xfa];have e15:=c15 p;unfold smP;cases h1:shP p
 ·rw[h1]at e15
  simp only[zk]at e15;simp -implicitDefEqProofs only[go_sem,simprocAttr,zk,e15]
 ·rw[h1]at e15
  have hf:=ynk h1 (by have:=zqn h1;omega);have e20:=c20 p hf;simp only[zk]at e15 e20;cases h2:decide ((p.c.length:Int)≤5)
  ·simp -implicitDefEqProofs only[go_sem,simprocAttr,zk,e15,h2]
  ·cases h3:decide ((p.v.length:Int)≤6)
   ·simp -implicitDefEqProofs only[go_sem,simprocAttr,zk,e15,h2,h3]
   ·cases h4:(xy p==0)
    ·simp -implicitDefEqProofs only[go_sem,simprocAttr,zk,e15,h2,h3,e20,h4]
    ·have ho:=j7 (by simpa using h4)
     obtain⟨r0,g1,g2⟩:=zql ho;obtain⟨g2,g3⟩:=g2;have g4:(p.v.map j0)[0]? =some (j0 r0):=by rw[List.getElem?_map,g1];rfl
     cases h5:decide ((slots p:Int)≤4)
     ·rw[←g2]at h5
      simp -implicitDefEqProofs only[go_sem,simprocAttr,zk,e15,h2,h3,e20,h4,g3,g4,j0,h5]
     ·rw[←g2]at h5
      simp -implicitDefEqProofs only[go_sem,simprocAttr,zk,e15,h2,h3,e20,h4,g3,g4,j0,h5]
def zai(w:List UInt8)(l:List (List UInt8)):Bool:=l.any fun a=>a==w
theorem yz0(w:List UInt8)(b:Bool)(l:List (List UInt8))(hb:l.length<1000000):∀i,i≤l.length→(zy T).loop false [.code (.loop zjr),.inBlock 0,.code (.seq zlv .ret)] ⟨99,18,0,[(0,.sl b 1 (l.map km)),(1,.str w),(5,.int .i64 i)],[],0,[]⟩=some (.ret (.bool (zai w (l.drop i))),[],0,[]):=by
 refine xv l.length ?_ fun i hi ih=> ?_
 ·rw[zj]
  have h1:=xz l.length;rw[List.drop_of_length_le (Nat.le_refl _)];simp -implicitDefEqProofs only[go_sem,simprocAttr,h1];rfl
 ·obtain⟨h1,h2,h3,h4,h5⟩:=zr hi (by omega)
  rw[zj,h5];simp only[zai,List.any_cons]at ih⊢;cases h6:(l[i]==w)
  ·simp only[Bool.false_or]
   rw[←ih];simp -implicitDefEqProofs only[go_sem,simprocAttr,h1,h2,h3,h4,km,h6]
  ·simp only[Bool.true_or]
   simp -implicitDefEqProofs only[go_sem,simprocAttr,h1,h2,h3,h4,km,h6]
theorem c99(w:List UInt8)(b:Bool)(l:List (List UInt8))(hb:l.length<1000000):(zy T).call 99 [.sl b 1 (l.map km),.str w] [] 0 []=some (.bool (zai w l),[],0,[]):=by
 rw[xe9];have h:=yz0 w b l hb 0 (by omega);rw[show((0:Nat):Int)=0 from rfl,List.drop_zero]at h;simp -implicitDefEqProofs only[go_sem,simprocAttr,h]
def uw(a b c:Int):V:= .agg [.int .u8 a,.int .u8 b,.int .u8 c]
def k5(p:Pk):V:= .agg [.sl p.vb 1 (p.v.map j0),.int .i64 p.n,wt 3 (p.c.map x8)]
theorem zb6{α:Type}{sz z:Nat}{nn:Bool}{l:List V}{k:Bool→List V→Option α}(h:(Nat.beq z sz|| !nn)=true):jd sz (.sl nn z l) k=k nn l:=by
 simp only[jd,h]
def zip:Code:=(r14_78.seq (Code.cond (Operand.tmp 383) (r14_79.seq Code.ret) Code.skip)).seq
 ((r14_80.seq (Code.cond (Operand.tmp 396) (r14_81.seq Code.ret) Code.skip)).seq
 ((r14_82.seq (Code.cond (Operand.tmp 401) (r14_83.seq ((r14_84.seq (Code.block 14 b14_7.loop)).seq (r14_88.seq (r14_89.seq Code.ret)))) Code.skip)).seq (r14_90.seq Code.ret)))
def zcl:Code:=(r14_64.seq (Code.cond (Operand.tmp 305) (r14_65.seq Code.ret) Code.skip)).seq (r14_66.seq (r14_67.seq
 ((r14_68.seq (Code.cond (Operand.tmp 335) (r14_69.seq Code.ret) Code.skip)).seq ((r14_70.seq (Code.cond (Operand.tmp 337) (r14_71.seq Code.ret) Code.skip)).seq
 ((r14_72.seq (Code.block 12 b14_6.loop)).seq zip)))))
def zis:Code:=r14_21.seq ((r14_22.seq (Code.cond (Operand.tmp 157) (r14_23.seq Code.ret) Code.skip)).seq (r14_24.seq
 ((r14_25.seq (Code.cond (Operand.tmp 160) zmr Code.skip)).seq (r14_27.seq (r14_28.seq ((r14_29.seq (Code.block 4 b14_2.loop)).seq zcl))))))
def znx:Code:=(r14_17.seq (Code.block 2 b14_1.loop)).seq zis
structure Ans where
 E:Int
 b1:Bool
 b2:Bool
 b3:Bool
 b4:Bool
 Lf:List (List Int)
 Wc:List (List UInt8)
 Wp:List (List UInt8)
 Pf:List (Int×Int)
def zbg(p q:Pk)(a b c:Int)(A:Ans)(o:Option (List Int))(i:Nat):Option Out:=
 (zy T).loop false [.code (.loop zki),.inBlock 0,.code znx]
  ⟨14,435,0,[(2,.ptr 0 0 0),(3,.ptr 1 0 0),(5,.sl A.b1 1 (A.Lf.map jk)),(6,.int .i64 A.E),(7,.sl A.b2 1 (A.Wc.map km)),(9,.sl A.b3 1 (A.Wp.map km)),(11,.sl A.b4 2 (A.Pf.map q7)),(13,.ptr 2 0 0),
   (14,kp o 3),(15,.sl false 0 []),(119,.int .i64 p.v.length),(120,.int .i64 i)],
   .cells true true 25 [zk p]:: .cells true true 166 [uw a b c]:: .cells true true 25 [zk q]::kc zx o 3,0,[]⟩
theorem xbb(p q:Pk)(hv8:p.v.length≤8)(a b c:Int)(A:Ans):∀i,i≤p.v.length→∀o,ka o=i→
  zbg p q a b c A o i=zbg p q a b c A (qj o ((List.replicate p.v.length (IntKind.i64.wrap b)).drop i)) p.v.length:=by
 refine xv p.v.length ?_ fun i hi ih o hO=> ?_
 ·intro o hO
  rw[List.drop_of_length_le (by simp),wb]
 ·obtain⟨h1,h2,h3,h4,h5⟩:=zr hi (by omega)
  have e:(List.replicate p.v.length (IntKind.i64.wrap b)).drop i=IntKind.i64.wrap b::(List.replicate p.v.length (IntKind.i64.wrap b)).drop (i+1):=by
   rw[List.drop_eq_getElem_cons (by simp;omega)];simp
  rw[e];have ih':=ih (qj o [IntKind.i64.wrap b]) (by rw[jz,hO];rfl);rw[jx]at ih';simp only[List.cons_append,List.nil_append]at ih';rw[←ih']
  conv=>lhs;unfold zbg;rw[zj]
  unfold zbg;cases o with
  |none=>
   have h0:decide (1<maxRow)=true:=by decide
   simp only[xk,xu,uw,zk];simp -implicitDefEqProofs only[go_sem,simprocAttr,h0,h1,h2,h3,h4,zx]
  |some l=>
   have hl:decide (l.length+1<maxRow)=true:=decide_eq_true (by rw[zpw]at hO;unfold maxRow;omega);simp only[zi,z6,qd,uw,zk];simp -implicitDefEqProofs only[go_sem,simprocAttr,h1,h2,h3,h4,hl,zx,List.map_append,List.map_cons,List.map_nil]
def zce(p q:Pk)(a b c:Int)(A:Ans)(vs:List Int)(o:Option (List (Int×Int)))(i:Nat):Option Out:=
 (zy T).loop false [.code (.loop b14_1),.inBlock 2,.code zis]
  ⟨14,435,0,[(2,.ptr 0 0 0),(3,.ptr 1 0 0),(5,.sl A.b1 1 (A.Lf.map jk)),(6,.int .i64 A.E),(7,.sl A.b2 1 (A.Wc.map km)),(9,.sl A.b3 1 (A.Wp.map km)),(11,.sl A.b4 2 (A.Pf.map q7)),(13,.ptr 2 0 0),
   (14,.ref 3),(15,kp o 4),(131,.int .i64 p.c.length),(132,.int .i64 i)],
   .cells true true 25 [zk p]:: .cells true true 166 [uw a b c]:: .cells true true 25 [zk q]:: .cells false true 3 (vs.map zx)::kc jq o 142,0,[]⟩
theorem xef(p q:Pk)(a b c:Int)(A:Ans)(l:List Int):zbg p q a b c A (some l) p.v.length=zce p q a b c A l none 0:=by
 have hE:=xz p.v.length;unfold zbg zce;rw[zj];simp only[zi,z6,xk,xu,uw,zk,znx];simp -implicitDefEqProofs only[go_sem,simprocAttr,hE]
theorem xba(p q:Pk)(hv8:p.c.length≤8)(a b c:Int)(A:Ans)(vs:List Int):∀i,i≤p.c.length→∀o,ka o=i→
  zce p q a b c A vs o i=zce p q a b c A vs (qj o ((List.replicate p.c.length ((0:Int),IntKind.i64.wrap c)).drop i)) p.c.length:=by
 refine xv p.c.length ?_ fun i hi ih o hO=> ?_
 ·intro o hO
  rw[List.drop_of_length_le (by simp),wb]
 ·obtain⟨h1,h2,h3,h4,h5⟩:=zr hi (by omega)
  have e:(List.replicate p.c.length ((0:Int),IntKind.i64.wrap c)).drop i=(0,IntKind.i64.wrap c)::(List.replicate p.c.length ((0:Int),IntKind.i64.wrap c)).drop (i+1):=by
   rw[List.drop_eq_getElem_cons (by simp;omega)];simp
  rw[e];have ih':=ih (qj o [(0,IntKind.i64.wrap c)]) (by rw[jz,hO];rfl);rw[jx]at ih';simp only[List.cons_append,List.nil_append]at ih';rw[←ih']
  conv=>lhs;unfold zce;rw[zj]
  unfold zce;have e87:=c87 0 (IntKind.i64.wrap c);cases o with
  |none=>
   have h0:decide (1<maxRow)=true:=by decide
   simp only[xk,xu,uw,zk];simp -implicitDefEqProofs only[go_sem,simprocAttr,h0,h1,h2,h3,h4,e87,jq]
  |some l=>
   have hl:decide (l.length+1<maxRow)=true:=decide_eq_true (by rw[zpw]at hO;unfold maxRow;omega);simp only[zi,z6,qd,uw,zk];simp -implicitDefEqProofs only[go_sem,simprocAttr,h1,h2,h3,h4,hl,e87,jq,List.map_append,List.map_cons,List.map_nil]
end Go.Den.FaT
namespace Go.Proofs.YtifljcjddphpjaaGreatDoor
open Go Go.Proofs Go.Den Go.Den.FaT Go.ChangeShapes Go.WideShapes Go.ChangeAt Go.RowKit
theorem yy3(us:List V):mk Tryz.prog 166 us= .agg us:=by unfold mk;rw[Tryz.underlying166]
theorem cl5{n:Nat}{us:List V}(h:Cl Tryz.prog n 5 us):∃a:Int,us= [.int .u8 a]∧0≤a∧a≤255:=by
 cases n with
 |zero=>cases h
 |succ n=>
  unfold Cl at h;rw[Tryz.underlying5]at h;obtain⟨i,rfl,hw⟩:=h;have h3:0≤i∧i≤255:=by simpa[Lit.wf,IntKind.min,IntKind.max,IntKind.signed,IntKind.bits]using hw
  exact⟨i,rfl,h3⟩
theorem xjg{n:Nat}{us:List V}(h:Cl Tryz.prog n 166 us):∃a b c:Int,mk Tryz.prog 166 us=uw a b c∧(0≤a∧a≤255)∧(0≤b∧b≤255)∧(0≤c∧c≤255):=by
 cases n with
 |zero=>cases h
 |succ n=>
  unfold Cl at h;rw[Tryz.underlying166]at h;obtain⟨ps,rfl,hl,hp⟩:=h
  match ps,hl with
  | [p,q,r],_=>
   obtain⟨x,rfl,hx⟩:=cl5 (hp p (by simp));obtain⟨y,rfl,hy⟩:=cl5 (hp q (by simp));obtain⟨z,rfl,hz⟩:=cl5 (hp r (by simp));exact⟨x,y,z,by rw[yy3];rfl,hx,hy,hz⟩
end Go.Proofs.YtifljcjddphpjaaGreatDoor
namespace Go.Den.FaT
open Go Go.Proofs Go.Den
def zda(p:Pk)(b b2:Bool)(vs:List Int)(ls:List (Int×Int))(o:Option (List (Bool×List Int)))(i:Nat):Option Out:=
 (zy T).loop false [.code (.loop zgf),.inBlock 0,.code (.seq (.seq zhs (.block 2 (.loop zc7))) (.seq zds .ret))]
  ⟨50,105,0,[(1,.sl b 1 (vs.map zx)),(2,.sl false 0 []),(3,.ptr 0 0 0),(6,.ptr 1 0 0),(10,.ptr 2 0 0),(58,.sl p.vb 1 (p.v.map j0)),(59,.int .i64 p.v.length),(60,.int .i64 i)],
   .cells true true 34 [zk p]:: .cells true true 34 [.agg [.sl false 0 [],.int .i64 0,.sl false 0 []]]:: .cells true o.isNone 34 [.agg [kp o 3,.int .i64 p.n,.sl false 0 []]]::kc j0 o 28,0,[]⟩
theorem yz6(p:Pk)(ho:Ok p)(hr:∀r∈p.v,r.1=true)(b b2:Bool)(vs:List Int)(ls:List (Int×Int))(hv:vs.length=p.v.length):∀i,i≤p.v.length→∀o,ka o=i→
  zda p b b2 vs ls o i=zda p b b2 vs ls (qj o ((List.zipWith xo p.v vs).drop i)) p.v.length:=by
 have hv8:=ho.v8;have hs8:=ho.s8;refine xv p.v.length ?_ fun i hi ih o hO=> ?_
 ·intro o hO
  have h0:(List.zipWith xo p.v vs).drop p.v.length= []:=by simp;omega
  rw[h0,wb]
 ·obtain⟨h1,h2,h3,h4,h5⟩:=zr hi (by omega)
  obtain⟨g1,g2,g3,g4,g5⟩:=zr (l:=vs) (i:=i) (by omega) (by omega)
  have e:(List.zipWith xo p.v vs).drop i=xo p.v[i] vs[i]::(List.zipWith xo p.v vs).drop (i+1):=by
   rw[List.drop_eq_getElem_cons (by simp;omega)];simp
  rw[e];have ih':=ih (qj o [xo p.v[i] vs[i]]) (by rw[jz,hO];rfl);rw[jx]at ih';simp only[List.cons_append,List.nil_append]at ih';rw[←ih'];have hrow:=ho.row _ (List.getElem_mem hi);have hfl:=hr _ (List.getElem_mem hi);have hs1:=ho.s1
  conv=>lhs;unfold zda;rw[zj]
  unfold zda;cases hx:p.v[i].2 with
  |nil=>rw[hx]at hrow;simp at hrow;omega
  |cons x r=>
   have e1:=yp1 x r (by rw[hx]at hrow;simp at hrow;omega);have h7:decide (r.length+1+1<maxRow)=true:=decide_eq_true (by rw[hx]at hrow;simp at hrow;unfold maxRow;omega);cases o with
   |none=>
    have h8:=ze (n:=0) (by omega);simp only[jy,zi,z6,xk,xu,Option.isNone_some,Option.isNone_none,List.map_cons,List.map_nil,j0,xo,hx,zk];simp -implicitDefEqProofs only[go_sem,simprocAttr,zk,h1,h2,h3,h4,g2,g3,hx,hfl,e1,h7,h8.2,zd6,List.map_append,List.map_cons,List.map_nil]
   |some a=>
    have h9:a.length=i:=hO;have h8:=(ze (n:=a.length) (by omega)).1;simp only[qd,zi,z6,Option.isNone_some,List.map_append,List.map_cons,List.map_nil,j0,xo,hx,zk];simp -implicitDefEqProofs only[go_sem,simprocAttr,zk,h1,h2,h3,h4,g2,g3,hx,hfl,e1,h7,h8,zd6,List.map_append,List.map_cons,List.map_nil]
def zk2(p:Pk)(R:List (Bool×List Int))(b2:Bool)(ls:List (Int×Int))(o:Option (List Cz))(i:Nat):Option Out:=
 (zy T).loop false [.code (.loop zc7),.inBlock 2,.code (.seq zds .ret)]
  ⟨50,105,0,[(2,.sl false 0 []),(6,.ptr 0 0 0),(10,.ptr 1 0 0),(80,.sl p.cb 3 (p.c.map x8)),(81,.int .i64 p.c.length),(82,.int .i64 i)],
   .cells true true 34 [.agg [.sl false 0 [],.int .i64 0,.sl false 0 []]]:: .cells true false 34 [.agg [.ref 2,.int .i64 p.n,kp o 3]]:: .cells false true 28 (R.map j0)::kc x8 o 180,0,[]⟩
theorem xlp:(zy T).call 145 [.sl false 0 [],.fn 146 []] [] 0 []=some (wt 1 [],[],0,[]):=by
 rw[yod];simp -implicitDefEqProofs only[go_sem,simprocAttr];rw[zj];simp -implicitDefEqProofs only[go_sem,simprocAttr];rfl
theorem xj8(p:Pk)(hf:p.fit)(h:xy p=0)(b b2:Bool)(vs:List Int)(hb:vs.length<1000000)(hpc:p.c= [])(hx:fuE p vs ([]:List (Int×Int))=0)(hr:∀r∈p.v,r.1=true)(hc:∀c∈p.c,c.b=true):
  (zy T).call 50 [zk p,.sl b 1 (vs.map zx),.sl false 0 []] [] 0 []=some (.tup [.agg [.sl true 1 ((List.zipWith xo p.v vs).map j0),.int .i64 p.n,wt 3 ((List.zipWith q8 p.c ([]:List (Int×Int))).map x8)],.int .i64 0],[],0,[]):=by
 rw[yn6];have ho:=j7 h;have e1:=c23 p hf;rw[h]at e1;obtain⟨k1,k2,k3⟩:=ynd hx;obtain⟨r0,g1,g2,g3⟩:=zhf ho;have gs:r0.2.length=slots p:=by rw[g2,zbt]
 have e2:=zpe b vs hb;have e3:=xlp;have e6:(zy T).call 114 [.sl false 1 []] [] 0 []=some (.int .i64 0,[],0,[]):=va false [] (by simp);have e4:∀b,(zy T).call 114 [.sl b 1 ((vs.map fun n=>yj n).map zx)] [] 0 []=_:=fun b=>va b (vs.map fun n=>yj n) (by simp;omega);have h1:(fuE p vs ([]:List (Int×Int)) !=0)=false:=by simpa using hx
 have fin:zda p b b2 vs ([]:List (Int×Int)) (some (List.zipWith xo p.v vs)) p.v.length=zk2 p (List.zipWith xo p.v vs) b2 ([]:List (Int×Int)) none 0:=by
  have hE:=xz p.v.length;unfold zda zk2;rw[zj];simp only[zi,z6,xk,xu,Option.isNone_some];simp -implicitDefEqProofs only[go_sem,simprocAttr,zk,hE]
 have endz:zk2 p (List.zipWith xo p.v vs) b2 ([]:List (Int×Int)) none 0=some (.ret (.tup [.agg [.sl true 1 ((List.zipWith xo p.v vs).map j0),.int .i64 p.n,wt 3 ((List.zipWith q8 p.c ([]:List (Int×Int))).map x8)],.int .i64 0]),[],0,[]):=by
  unfold zk2;rw[zj,hpc];simp only[xk,xu];simp -implicitDefEqProofs only[go_sem,simprocAttr];rfl
 have hI:=yz6 p ho hr b b2 vs ([]:List (Int×Int)) k1 0 (by omega) none rfl
 have hA:qj none (List.zipWith xo p.v vs)=some (List.zipWith xo p.v vs):=by
  cases hz:List.zipWith xo p.v vs with
  |nil=>
   have:=congrArg List.length hz;rw[List.length_zipWith,List.length_nil]at this;have:=ho.v1;omega
  |cons x r=>rfl
 rw[List.drop_zero,hA,fin,endz]at hI;unfold zda at hI;simp only[xk,xu,Option.isNone_none,show((0:Nat):Int)=0 from rfl,zk]at hI;simp only[zk]at e1;unfold fuE at h1;simp only[List.map_nil,List.length_nil,show fnz []=0 from rfl,show((0:Nat):Int)=0 from rfl]at h1;simp -implicitDefEqProofs only[go_sem,simprocAttr,zk,e1,e2,e3,e4,g1,g3,gs,h1,qo,yqc,hI,e6]
def vp(p q M:Pk)(A:Ans)(sz fo sm al:Int)(r:List Int)(b:Nat):Option Out:=
 (zy T).loop false [.code (.loop b14_2),.inBlock 4,.code zcl]
  ⟨14,435,0,[(2,.ptr 0 0 0),(5,.sl A.b1 1 (A.Lf.map jk)),(6,.int .i64 A.E),(7,.sl A.b2 1 (A.Wc.map km)),(9,.sl A.b3 1 (A.Wp.map km)),(11,.sl A.b4 2 (A.Pf.map q7)),(13,.ptr 1 0 0),(16,.ptr 2 0 0),
   (18,.int .i64 sz),(19,.int .i64 fo),(20,.int .i64 sm),(21,.ref 3),(22,.int .i64 al),(172,.int .i64 ((2^p.c.length:Nat):Int)),(173,.int .i64 b)],
   [.cells true true 25 [zk p],.cells true true 25 [zk q],.cells true true 34 [zk M],.cells false true 3 (r.map zx)],0,[]⟩
theorem zp9{n:Nat}(h:n≤5):IntKind.i64.wrap (1*2^min n 64)=((2^n:Nat):Int):=
 match n,h with
 |0,_=>rfl
 |1,_=>rfl
 |2,_=>rfl
 |3,_=>rfl
 |4,_=>rfl
 |5,_=>rfl
theorem xee(p q O M:Pk)(a b c:Int)(A:Ans)(vs:List Int)(o:Option (List (Int×Int)))(h5:p.c.length≤5)(hM:M.vb=true)(hM2:M.cb= !(M.c.map x8).isEmpty)(sz:Int)
 (e18:(zy T).call 18 [zk p] [] 0 []=some (k5 O,[],0,[]))(hO:O.cb= !(O.c.map x8).isEmpty)
 (e50:(zy T).call 50 [zk O,.sl true 1 (vs.map zx),vv jq 0 2 o] [] 0 []=some (.tup [.agg [.sl true 1 (M.v.map j0),.int .i64 M.n,wt 3 (M.c.map x8)],.int .i64 0],[],0,[]))
 (e54:(zy T).call 54 [zk M] [] 0 []=some (zk M,[],0,[]))
 (e20:(zy T).call 20 [zk M] [] 0 []=some (.int .i64 0,[],0,[]))
 (hL:(A.Lf.length=0∧sz=99)∨∃s0:List Int,A.Lf[0]? =some s0∧sz=s0.length):
 zce p q a b c A vs o p.c.length=vp p q M A sz 0 0 0 (List.replicate p.c.length 0) 0:=by
 have hE:=xz p.c.length;have g1:=zp9 h5;have g2:decide (0≤(p.c.length:Int)∧(p.c.length:Int)≤(p.c.length:Int)∧(p.c.length:Int)<(maxRow:Int))=true:=decide_eq_true ⟨by omega,by omega,by unfold maxRow;omega⟩;have g3:decide (0≤(p.c.length:Int))=true:=decide_eq_true (by omega);unfold zce vp;rw[zj];simp only[zk,k5,hO,uw,zis,hM,hM2,List.map_replicate,show((0:Nat):Int)=0 from rfl]at*;rcases hL with⟨hL,rfl⟩|⟨s0,hs,rfl⟩
 ·have hl:decide (0<(A.Lf.length:Int))=false:=decide_eq_false (by omega)
  cases o with
  |none=>
   simp only[zk0]at e50;simp only[xk,xu];simp -implicitDefEqProofs only[go_sem,simprocAttr,hE,e18,e50,e54,e20,hl,g1,g2,g3,zx]
  |some ls=>
   simp only[zgv]at e50;simp only[zi,z6];simp -implicitDefEqProofs only[go_sem,simprocAttr,hE,e18,e50,e54,e20,hl,g1,g2,g3,zx]
 ·have hl:decide (0<(A.Lf.length:Int))=true:=by
   have:=(List.getElem?_eq_some_iff.1 hs).1;exact decide_eq_true (by omega)
  have hs2:(A.Lf.map jk)[0]? =some (jk s0):=by rw[List.getElem?_map,hs];rfl
  cases o with
  |none=>
   simp only[zk0]at e50;simp only[xk,xu];simp -implicitDefEqProofs only[go_sem,simprocAttr,hE,e18,e50,e54,e20,hl,g1,g2,g3,zx,hs2,jk,List.length_map]
  |some ls=>
   simp only[zgv]at e50;simp only[zi,z6];simp -implicitDefEqProofs only[go_sem,simprocAttr,hE,e18,e50,e54,e20,hl,g1,g2,g3,zx,hs2,jk,List.length_map]
def ziq:Code:=r14_53.seq (Code.cond (Operand.tmp 276) (r14_54.seq (r14_55.seq ((r14_56.seq (Code.block 10 b14_5.loop)).seq (r14_61.seq (Code.cond (Operand.tmp 293) (r14_62.seq Code.ret) Code.skip))))) Code.skip)
def zir:Code:=r14_39.seq (r14_40.seq (r14_41.seq ((r14_42.seq (Code.cond (Operand.tmp 249) (r14_43.seq Code.ret) Code.skip)).seq
 ((r14_44.seq (Code.cond (Operand.tmp 253) zmq Code.skip)).seq ((r14_46.seq (Code.cond (Operand.tmp 257) (Code.exit 5) Code.skip)).seq (r14_47.seq ((r14_48.seq (Code.block 8 b14_4.loop)).seq ziq)))))))
def yq(p q M:Pk)(A:Ans)(sz fo sm al:Int)(r:List Int)(b:Nat)(o:Option (List Int))(i:Nat):Option Out:=
 (zy T).loop false [.code (.loop zkh),.inBlock 6,.code zir,.inBlock 5,.code ze3,.inLoop b14_2,.inBlock 4,.code zcl]
  ⟨14,435,0,[(2,.ptr 0 0 0),(5,.sl A.b1 1 (A.Lf.map jk)),(6,.int .i64 A.E),(7,.sl A.b2 1 (A.Wc.map km)),(9,.sl A.b3 1 (A.Wp.map km)),(11,.sl A.b4 2 (A.Pf.map q7)),(13,.ptr 1 0 0),(16,.ptr 2 0 0),
   (18,.int .i64 sz),(19,.int .i64 fo),(20,.int .i64 sm),(21,.ref 3),(22,.int .i64 al),(23,.int .i64 b),(24,kp o 4),(172,.int .i64 ((2^p.c.length:Nat):Int)),(173,.int .i64 b),(178,.int .i64 p.c.length),(179,.int .i64 i)],
   .cells true true 25 [zk p]:: .cells true true 25 [zk q]:: .cells true true 34 [zk M]:: .cells false true 3 (r.map zx)::kc zx o 3,0,[]⟩
theorem xdb(p q M:Pk)(A:Ans)(sz fo sm al:Int)(r:List Int)(b:Nat)(h:b<2^p.c.length):
  vp p q M A sz fo sm al r b=yq p q M A sz fo sm al r b none 0:=by
 have h1:decide ((b:Int)<((2^p.c.length:Nat):Int))=true:=decide_eq_true (by omega);unfold vp yq;rw[zj];simp only[zk,xk,xu,zir,ziq];simp -implicitDefEqProofs only[go_sem,simprocAttr,h1]
theorem xmm:∀b:_root_.Fin 32,∀i:_root_.Fin 5,(IntKind.i64.wrap ↑(BitVec.ofInt 64 (((b.1:Nat):Int).fdiv (2^min i.1 64))&&&1#64).toNat==1)=((b.1>>>i.1)&&&1==1):=by decide+kernel
theorem xml{b i:Nat}(hb:b<32)(hi:i<5):(IntKind.i64.wrap ↑(@HAnd.hAnd (BitVec 64) (BitVec 64) (BitVec 64) (@instHAndOfAndOp (BitVec IntKind.i64.bits) (@BitVec.instAndOp IntKind.i64.bits)) (BitVec.ofInt 64 ((b:Int).fdiv (2^min i 64))) (1#64)).toNat==1)=((b>>>i)&&&1==1):=xmm ⟨b,hb⟩ ⟨i,hi⟩
theorem xa9(p q M:Pk)(h5:p.c.length≤5)(A:Ans)(sz fo sm al:Int)(r:List Int)(b:Nat)(hb:b<32):∀i,i≤p.c.length→∀o,ka o≤i→
  yq p q M A sz fo sm al r b o i=yq p q M A sz fo sm al r b (qj o (j9 b i (p.c.length- i))) p.c.length:=by
 refine xv p.c.length ?_ fun i hi ih o hO=> ?_
 ·intro o hO
  rw[Nat.sub_self];rfl
 ·obtain⟨h1,h2,h3,h4,h5⟩:=zr hi (by omega)
  obtain⟨m,hm⟩:∃m,p.c.length- i=m+1:=⟨p.c.length- i- 1,by omega⟩;have hm':p.c.length- (i+1)=m:=by omega
  rw[hm,j9];rw[hm']at ih;have g1:decide (0≤(i:Int))=true:=decide_eq_true (by omega);have g2:=xml hb (show i<5 by omega);have g3:decide (1<maxRow)=true:=by decide
  cases hbit:((b>>>i)&&&1==1)
  ·rw[hbit]at g2
   rw[cond_false,←ih o (by omega)]
   conv=>lhs;unfold yq;rw[zj]
   unfold yq;cases o with
   |none=>
    simp only[xk,xu,zk];simp -implicitDefEqProofs only[go_sem,simprocAttr,h1,h2,h3,h4,g1,g2]
   |some l=>
    simp only[zi,z6,qd,zk];simp -implicitDefEqProofs only[go_sem,simprocAttr,h1,h2,h3,h4,g1,g2]
  ·rw[hbit]at g2
   rw[cond_true];have ih':=ih (qj o [(i:Int)]) (by rw[jz];simp;omega);rw[jx]at ih';simp only[List.cons_append,List.nil_append]at ih';rw[←ih']
   conv=>lhs;unfold yq;rw[zj]
   unfold yq;cases o with
   |none=>
    simp only[xk,xu,zk];simp -implicitDefEqProofs only[go_sem,simprocAttr,h1,h2,h3,h4,g1,g2,g3,zx]
   |some l=>
    have hl:decide (l.length+1<maxRow)=true:=decide_eq_true (by rw[zpw]at hO;unfold maxRow;omega);simp only[zi,z6,qd,zk];simp -implicitDefEqProofs only[go_sem,simprocAttr,h1,h2,h3,h4,g1,g2,hl,zx,List.map_append,List.map_cons,List.map_nil]
theorem xkc:(zy T).call 27 [.sl false 0 []] [] 0 []=some (.sl true 1 [],[],0,[]):=by
 rw[yn9];simp -implicitDefEqProofs only[go_sem,simprocAttr]
theorem ypp(st:List Int)(h:st.length<1000000):(zy T).call 27 [vv zx 0 1 (qj none st)] [] 0 []=some (.sl true 1 (st.map zx),[],0,[]):=by
 cases st with
 |nil=>exact xkc
 |cons x r=>exact c27 true (x::r) h
theorem xh4(p q M O Q N:Pk)(A:Ans)(sz fo sm al:Int)(r:List Int)(b:Nat)(st:List Int)(hs:st.length<100)(hb:b<100)(sl:Bool)
  (e18:(zy T).call 18 [zk p] [] 0 []=some (k5 O,[],0,[]))(hO:O.cb= !(O.c.map x8).isEmpty)(e18q:(zy T).call 18 [zk q] [] 0 []=some (k5 Q,[],0,[]))(hQ:Q.cb= !(Q.c.map x8).isEmpty)(e54:(zy T).call 54 [zk M] [] 0 []=some (zk M,[],0,[]))(e18m:(zy T).call 18 [zk M] [] 0 []=some (k5 N,[],0,[]))(hN:N.cb= !(N.c.map x8).isEmpty)
  (e29:(zy T).call 29 [zk O,.sl true 1 (st.map zx)] [] 0 []=some (.tup [.bool false,.int .i64 0],[],0,[]))
  (e29q:(zy T).call 29 [zk Q,.sl true 1 (st.map zx)] [] 0 []=some (.tup [.bool sl,.int .i64 0],[],0,[]))
  (e29m:(zy T).call 29 [zk N,.sl true 1 (st.map zx)] [] 0 []=some (.tup [.bool false,.int .i64 0],[],0,[])):
  yq p q M A sz fo sm al r b (qj none st) p.c.length=vp p q M A sz fo (if decide ((st.length:Int)<sz)=true then IntKind.i64.wrap (sm+1)else sm) al r (b+1):=by
 have hE:=xz p.c.length;have e27:=ypp st (by omega);have hw:IntKind.i64.wrap ((b:Int)+1)=((b+1:Nat):Int):=by rw[wrap64]<;>omega
 unfold yq vp;rw[zj];simp only[zk,k5,hO,hQ,hN,zir]at*;cases st with
 |nil=>
  simp only[wb,zk0,xk,xu,List.map_nil,List.length_nil,show((0:Nat):Int)=0 from rfl]at*;cases hl:decide ((0:Int)<sz)
  ·simp -implicitDefEqProofs only[go_sem,simprocAttr,hE,e18,e18q,e54,e18m,e27,e29,e29q,e29m,hl,hw]
  ·simp -implicitDefEqProofs only[go_sem,simprocAttr,hE,e18,e18q,e54,e18m,e27,e29,e29q,e29m,hl,hw]
 |cons x t=>
  rw[show qj none (x::t)=some (x::t)from rfl]at*;simp only[zgv,zi,z6]at*;generalize x::t=st at*;cases hl:decide ((st.length:Int)<sz)
  ·simp -implicitDefEqProofs only[go_sem,simprocAttr,hE,e18,e18q,e54,e18m,e27,e29,e29q,e29m,hl,hw]
  ·simp -implicitDefEqProofs only[go_sem,simprocAttr,hE,e18,e18q,e54,e18m,e27,e29,e29q,e29m,hl,hw]
def fzO{α:Type}:Option α→Nat
 |none=>0
 |some _=>16
theorem ziz{α:Type}:fzO (none:Option α)=0:=rfl
theorem zfn{α:Type}(x:α):fzO (some x)=16:=rfl
def zcd(p q M:Pk)(A:Ans)(sz fo sm al:Int)(r:List Int)(b:Nat)(st:List Int)(i:Nat):Option Out:=
 (zy T).loop false [.code (.loop b14_4),.inBlock 8,.code ziq,.inBlock 5,.code ze3,.inLoop b14_2,.inBlock 4,.code zcl]
  ⟨14,435,0,[(2,.ptr 0 0 0),(5,.sl A.b1 1 (A.Lf.map jk)),(6,.int .i64 A.E),(7,.sl A.b2 1 (A.Wc.map km)),(9,.sl A.b3 1 (A.Wp.map km)),(11,.sl A.b4 2 (A.Pf.map q7)),(13,.ptr 1 0 0),(16,.ptr 2 0 0),
   (18,.int .i64 sz),(19,.int .i64 fo),(20,.int .i64 sm),(21,.ref 3),(22,.int .i64 al),(24,kp (qj none st) 4),(172,.int .i64 ((2^p.c.length:Nat):Int)),(173,.int .i64 b),(260,kp (qj none st) 4),(261,.int .i64 st.length),(262,.int .i64 i)],
   .cells true true 25 [zk p]:: .cells true true 25 [zk q]:: .cells true true 34 [zk M]:: .cells false true 3 (r.map zx)::kc zx (qj none st) 3,fzO (qj none st),[]⟩
theorem xh3(p q M O Q N:Pk)(A:Ans)(sz fo sm al:Int)(r:List Int)(b:Nat)(st:List Int)(hs:st.length<100)(hb:b<100)(th:Bool)
  (e18:(zy T).call 18 [zk p] [] 0 []=some (k5 O,[],0,[]))(hO:O.cb= !(O.c.map x8).isEmpty)(e18q:(zy T).call 18 [zk q] [] 0 []=some (k5 Q,[],0,[]))(hQ:Q.cb= !(Q.c.map x8).isEmpty)(e54:(zy T).call 54 [zk M] [] 0 []=some (zk M,[],0,[]))(e18m:(zy T).call 18 [zk M] [] 0 []=some (k5 N,[],0,[]))(hN:N.cb= !(N.c.map x8).isEmpty)
  (e29:(zy T).call 29 [zk O,.sl true 1 (st.map zx)] [] 0 []=some (.tup [.bool true,.int .i64 0],[],0,[]))
  (e29q:(zy T).call 29 [zk Q,.sl true 1 (st.map zx)] [] 0 []=some (.tup [.bool true,.int .i64 0],[],0,[]))
  (e29m:(zy T).call 29 [zk N,.sl true 1 (st.map zx)] [] 0 []=some (.tup [.bool th,.int .i64 0],[],0,[]))
  (hl:decide ((st.length:Int)<sz)=false):
  yq p q M A sz fo sm al r b (qj none st) p.c.length=zcd p q M A sz fo sm (IntKind.i64.wrap (al+1)) r b st 0:=by
 have hE:=xz p.c.length;have e27:=ypp st (by omega);unfold yq zcd;rw[zj];simp only[zk,k5,hO,hQ,hN,zir,show((0:Nat):Int)=0 from rfl]at*;cases st with
 |nil=>
  simp only[wb,zk0,xk,xu,ziz,List.map_nil,List.length_nil,show((0:Nat):Int)=0 from rfl]at*;cases th
  ·simp -implicitDefEqProofs only[go_sem,simprocAttr,hE,e18,e18q,e54,e18m,e27,e29,e29q,e29m,hl]
  ·simp -implicitDefEqProofs only[go_sem,simprocAttr,hE,e18,e18q,e54,e18m,e27,e29,e29q,e29m,hl]
 |cons x t=>
  rw[show qj none (x::t)=some (x::t)from rfl]at*;simp only[zgv,zi,z6,zfn]at*;generalize x::t=st at*;cases th
  ·simp -implicitDefEqProofs only[go_sem,simprocAttr,hE,e18,e18q,e54,e18m,e27,e29,e29q,e29m,hl]
  ·simp -implicitDefEqProofs only[go_sem,simprocAttr,hE,e18,e18q,e54,e18m,e27,e29,e29q,e29m,hl]
theorem xa8(p q M:Pk)(A:Ans)(sz fo sm al:Int)(b:Nat)(st:List Int)(hs:st.length<100):∀i,i≤st.length→∀r:List Int,(∀x∈st,0≤x∧x<(r.length:Int))→
  zcd p q M A sz fo sm al r b st i=zcd p q M A sz fo sm al (incR r (st.drop i)) b st st.length:=by
 refine xv st.length ?_ fun i hi ih r hr=> ?_
 ·intro r hr
  rw[List.drop_of_length_le (Nat.le_refl _)];rfl
 ·obtain⟨h1,h2,h3,h4,h5⟩:=zr hi (by omega)
  have hx:=hr st[i] (List.getElem_mem hi);have hkr:st[i].toNat<r.length:=by omega
  rw[h5,show incR r (st[i]::st.drop (i+1))=incR (r.set st[i].toNat (IntKind.i64.wrap (r.getD st[i].toNat 0+1))) (st.drop (i+1))from rfl];have g1:decide (0≤st[i]∧st[i]<(r.length:Int))=true:=decide_eq_true ⟨by omega,by omega⟩;have g2:r[st[i].toNat]? =some (r.getD st[i].toNat 0):=by rw[List.getD_eq_getElem?_getD,List.getElem?_eq_getElem hkr];rfl
  rw[←ih (r.set st[i].toNat (IntKind.i64.wrap (r.getD st[i].toNat 0+1))) (fun x hx'=>by rw[List.length_set];exact hr x hx')];generalize hR:r.getD st[i].toNat 0=rv at*;have g4:decide (st[i].toNat<r.length)=true:=decide_eq_true hkr;have g5:(r.set st[i].toNat (IntKind.i64.wrap (rv+1))).map zx=(r.map zx).set st[i].toNat (zx (IntKind.i64.wrap (rv+1))):=by rw[List.map_set]
  have e:qj none st=some st:=by
   cases st with
   |nil=>simp at hi
   |cons x t=>rfl
  conv=>lhs;unfold zcd;rw[zj]
  unfold zcd;rw[e];simp only[zi,z6,zfn,zk,g5];simp -implicitDefEqProofs only[go_sem,simprocAttr,h1,h2,h3,h4,g1,g2,g4,zx]
  done
def zcc(p q M:Pk)(A:Ans)(sz fo sm al:Int)(r:List Int)(b:Nat)(st:List Int)(has:Bool)(i:Nat):Option Out:=
 (zy T).loop false [.code (.loop b14_5),.inBlock 10,.code (r14_61.seq (Code.cond (Operand.tmp 293) (r14_62.seq Code.ret) Code.skip)),.inBlock 5,.code ze3,.inLoop b14_2,.inBlock 4,.code zcl]
  ⟨14,435,0,[(2,.ptr 0 0 0),(5,.sl A.b1 1 (A.Lf.map jk)),(6,.int .i64 A.E),(7,.sl A.b2 1 (A.Wc.map km)),(9,.sl A.b3 1 (A.Wp.map km)),(11,.sl A.b4 2 (A.Pf.map q7)),(13,.ptr 1 0 0),(16,.ptr 2 0 0),
   (18,.int .i64 sz),(19,.int .i64 fo),(20,.int .i64 sm),(21,.ref 3),(22,.int .i64 al),(24,kp (qj none st) 4),(34,.bool has),(172,.int .i64 ((2^p.c.length:Nat):Int)),(173,.int .i64 b),
   (279,.sl A.b1 1 (A.Lf.map jk)),(280,.int .i64 A.Lf.length),(281,.int .i64 i)],
   .cells true true 25 [zk p]:: .cells true true 25 [zk q]:: .cells true true 34 [zk M]:: .cells false true 3 (r.map zx)::kc zx (qj none st) 3,fzO (qj none st),[]⟩
theorem xh2(p q M:Pk)(A:Ans)(sz fo sm al:Int)(r:List Int)(b:Nat)(hb:b<100)(st:List Int):
  zcd p q M A sz fo sm al r b st st.length=if((st.length:Int)==sz)=true then zcc p q M A sz (IntKind.i64.wrap (fo+1)) sm al r b st false 0 else vp p q M A sz fo sm al r (b+1):=by
 have hE:=xz st.length;have hw:IntKind.i64.wrap ((b:Int)+1)=((b+1:Nat):Int):=by rw[wrap64]<;>omega
 unfold zcd zcc vp;rw[zj];simp only[zk,ziq,show((0:Nat):Int)=0 from rfl];cases st with
 |nil=>
  simp only[wb,xk,xu,ziz,List.length_nil,show((0:Nat):Int)=0 from rfl]at*;cases h:((0:Int)==sz)
  ·simp -implicitDefEqProofs only[go_sem,simprocAttr,hE,hw,h]
  ·simp -implicitDefEqProofs only[go_sem,simprocAttr,hE,hw,h]
 |cons x t=>
  rw[show qj none (x::t)=some (x::t)from rfl]at*;simp only[zi,z6,zfn]at*;generalize x::t=st at*;cases h:((st.length:Int)==sz)
  ·simp -implicitDefEqProofs only[go_sem,simprocAttr,hE,hw,h]
  ·simp -implicitDefEqProofs only[go_sem,simprocAttr,hE,hw,h]
theorem xa7(p q M:Pk)(A:Ans)(hA:A.Lf.length<1000)(hA2:∀l∈A.Lf,l.length<1000)(sz fo sm al:Int)(r:List Int)(b:Nat)(st:List Int)(hs:st.length<100):∀i,i≤A.Lf.length→∀has:Bool,
  zcc p q M A sz fo sm al r b st has i=zcc p q M A sz fo sm al r b st (has||(A.Lf.drop i).any fun l=>decide (l=st)) A.Lf.length:=by
 refine xv A.Lf.length ?_ fun i hi ih has=> ?_
 ·intro has
  rw[List.drop_of_length_le (Nat.le_refl _),List.any_nil,Bool.or_false]
 ·obtain⟨h1,h2,h3,h4,h5⟩:=zr hi (by omega)
  rw[h5,List.any_cons];have ih':=ih (has||decide (A.Lf[i]=st));rw[Bool.or_assoc]at ih';rw[←ih'];have h6:(A.Lf.map jk)[i]? =some (jk A.Lf[i]):=by rw[List.getElem?_map,h3];rfl
  have hll:=hA2 _ (List.getElem_mem hi)
  conv=>lhs;unfold zcc;rw[zj]
  unfold zcc;cases st with
  |nil=>
   have e:=xj7 (!A.Lf[i].isEmpty) A.Lf[i] (by omega);simp only[wb,xk,xu,ziz,zk];cases has
   ·rw[Bool.false_or]
    simp -implicitDefEqProofs only[go_sem,simprocAttr,h1,h2,h3,h4,h6,jk,e]
   ·rw[Bool.true_or]
    simp -implicitDefEqProofs only[go_sem,simprocAttr,h1,h2,h3,h4,h6,jk,e]
  |cons x t=>
   rw[show qj none (x::t)=some (x::t)from rfl];simp only[zi,z6,zfn,zk];generalize x::t=st at*;have e:=c89 (!A.Lf[i].isEmpty) true A.Lf[i] st (by omega);cases has
   ·rw[Bool.false_or]
    simp -implicitDefEqProofs only[go_sem,simprocAttr,h1,h2,h3,h4,h6,jk,e]
   ·rw[Bool.true_or]
    simp -implicitDefEqProofs only[go_sem,simprocAttr,h1,h2,h3,h4,h6,jk,e]
theorem xh1(p q M:Pk)(A:Ans)(sz fo sm al:Int)(r:List Int)(b:Nat)(hb:b<100)(st:List Int):
  zcc p q M A sz fo sm al r b st true A.Lf.length=vp p q M A sz fo sm al r (b+1):=by
 have hE:=xz A.Lf.length;have hw:IntKind.i64.wrap ((b:Int)+1)=((b+1:Nat):Int):=by rw[wrap64]<;>omega
 unfold zcc vp;rw[zj];simp only[zk];cases st with
 |nil=>
  simp only[wb,xk,xu,ziz];simp -implicitDefEqProofs only[go_sem,simprocAttr,hE,hw]
 |cons x t=>
  rw[show qj none (x::t)=some (x::t)from rfl];simp only[zi,z6,zfn];simp -implicitDefEqProofs only[go_sem,simprocAttr,hE,hw]
def q9(n k:Nat):List (List Int):=(List.range k).map (bitS n)
theorem xmn(n k:Nat):q9 n (k+1)=q9 n k++ [bitS n k]:=by unfold q9;rw[List.range_succ,List.map_append];rfl
theorem yqm(n k:Nat):(q9 n k).length=k:=by simp[q9]
structure Setting (O Q N:Pk) (A:Ans) (sz:Int) (n:Nat) (E El Em:List Int→Bool):Prop where
 e29:∀b,b<2^n→(zy T).call 29 [zk O,.sl true 1 ((bitS n b).map zx)] [] 0 []=some (.tup [.bool (E (bitS n b)),.int .i64 0],[],0,[])
 e29q:∀b,b<2^n→(zy T).call 29 [zk Q,.sl true 1 ((bitS n b).map zx)] [] 0 []=some (.tup [.bool (El (bitS n b)),.int .i64 0],[],0,[])
 e29m:∀b,b<2^n→(zy T).call 29 [zk N,.sl true 1 ((bitS n b).map zx)] [] 0 []=some (.tup [.bool (Em (bitS n b)),.int .i64 0],[],0,[])
 h1:∀b,b<2^n→E (bitS n b)=true→El (bitS n b)=true
 h2:∀b,b<2^n→Em (bitS n b)=true→E (bitS n b)=true
 h3:∀b,b<2^n→E (bitS n b)=true→decide (((bitS n b).length:Int)<sz)=false
 h4:∀b,b<2^n→E (bitS n b)=true→((bitS n b).length:Int)=sz→bitS n b∈A.Lf
def gf(p q M:Pk)(A:Ans)(sz:Int)(E:List Int→Bool)(k:Nat):Option Out:=
 vp p q M A sz (((q9 p.c.length k).filter E).countP fun s=>((s.length:Int)==sz):Nat) ((q9 p.c.length k).countP fun s=>decide ((s.length:Int)<sz):Nat) (((q9 p.c.length k).filter E).length:Nat) (ju p.c.length ((q9 p.c.length k).filter E)) k
theorem zg8{n:Nat}(h:n≤5):2^n≤32:=Nat.pow_le_pow_right (by omega) h
theorem yo5{α:Type}(f:α→Bool)(l:List α)(x:α):(l++ [x]).countP f=l.countP f+(if f x=true then 1 else 0):=by
 rw[List.countP_append,List.countP_cons,List.countP_nil,Nat.zero_add]
theorem step14(p q M O Q N:Pk)(A:Ans)(sz:Int)(E El Em:List Int→Bool)(h5:p.c.length≤5)(hA:A.Lf.length<1000)(hA2:∀l∈A.Lf,l.length<1000)
  (e18:(zy T).call 18 [zk p] [] 0 []=some (k5 O,[],0,[]))(hO:O.cb= !(O.c.map x8).isEmpty)(e18q:(zy T).call 18 [zk q] [] 0 []=some (k5 Q,[],0,[]))(hQ:Q.cb= !(Q.c.map x8).isEmpty)(e54:(zy T).call 54 [zk M] [] 0 []=some (zk M,[],0,[]))(e18m:(zy T).call 18 [zk M] [] 0 []=some (k5 N,[],0,[]))(hN:N.cb= !(N.c.map x8).isEmpty)
  (S:Setting O Q N A sz p.c.length E El Em)(k:Nat)(hk:k<2^p.c.length):gf p q M A sz E k=gf p q M A sz E (k+1):=by
 have h32:=zg8 h5;have hbl:=zgd p.c.length k
 have hL:((q9 p.c.length k).filter E).length≤k:=by
  have:=List.length_filter_le E (q9 p.c.length k);rw[yqm]at this;exact this
 unfold gf;rw[xdb _ _ _ _ _ _ _ _ _ _ hk,xa9 p q M h5 A sz _ _ _ _ k (by omega) 0 (by omega) none (Nat.le_refl _)];rw[show j9 k 0 (p.c.length- 0)=bitS p.c.length k from rfl,xmn,List.filter_append,yo5];have a29:=S.e29 k hk;have a29q:=S.e29q k hk;have a29m:=S.e29m k hk;have a1:=S.h1 k hk;have a2:=S.h2 k hk;have a3:=S.h3 k hk;have a4:=S.h4 k hk;have hmem:∀x∈bitS p.c.length k,0≤x∧x<(p.c.length:Int):=fun x hx=>zjq hx;have hinc:=xi6 p.c.length k ((q9 p.c.length k).filter E) (by omega) h5;have hrl:(ju p.c.length ((q9 p.c.length k).filter E)).length=p.c.length:=by simp[ju]
 have hcB:(q9 p.c.length k).countP (fun s=>decide ((s.length:Int)<sz))≤k:=by
  have:=List.countP_le_length (p:=fun s=>decide ((s.length:Int)<sz)) (l:=q9 p.c.length k);rw[yqm]at this;exact this
 have hcX:((q9 p.c.length k).filter E).countP (fun s=>((s.length:Int)==sz))≤k:=Nat.le_trans List.countP_le_length hL;generalize bitS p.c.length k=st at*;cases hE:E st
 ·rw[hE]at a29 a2
  have hem:Em st=false:=by cases h:Em st<;>simp_all
  rw[hem]at a29m;rw[xh4 p q M O Q N A sz _ _ _ _ k st (by omega) (by omega) (El st) e18 hO e18q hQ e54 e18m hN a29 a29q a29m];have hf: [st].filter E= []:=by simp[hE]
  rw[hf,List.append_nil];congr 1;by_cases hd:decide ((st.length:Int)<sz)=true
  ·rw[if_pos hd,if_pos hd,wrap64]<;>omega
  ·rw[if_neg hd,if_neg hd,Nat.add_zero]
 ·rw[hE]at a29
  rw[a1 hE]at a29q;have hl:=a3 hE;rw[xh3 p q M O Q N A sz _ _ _ _ k st (by omega) (by omega) (Em st) e18 hO e18q hQ e54 e18m hN a29 a29q a29m hl];rw[xa8 p q M A sz _ _ _ k st (by omega) 0 (by omega) _ (fun x hx=>by rw[hrl];exact hmem x hx),List.drop_zero,hinc];have hf: [st].filter E= [st]:=by simp[hE]
  rw[hf,xh2 _ _ _ _ _ _ _ _ _ k (by omega),yo5,List.length_append,hl];have hw:IntKind.i64.wrap ((((q9 p.c.length k).filter E).length:Nat)+1)=((((q9 p.c.length k).filter E).length+ [st].length:Nat):Int):=by rw[wrap64]<;>first|omega|(simp)
  rw[hw];simp only[if_neg (show¬(false=true) by simp),Nat.add_zero];split
  ·rename_i h
   have hin:=a4 hE (by simpa using h);rw[xa7 p q M A hA hA2 sz _ _ _ _ k st (by omega) 0 (by omega),List.drop_zero,Bool.false_or];have hany:(A.Lf.any fun l=>decide (l=st))=true:=List.any_eq_true.2 ⟨st,hin,by simp⟩;rw[hany,xh1 _ _ _ _ _ _ _ _ _ k (by omega)];congr 1;rw[wrap64]<;>omega
  ·rfl
theorem xm7(p q M O Q N:Pk)(A:Ans)(sz:Int)(E El Em:List Int→Bool)(h5:p.c.length≤5)(hA:A.Lf.length<1000)(hA2:∀l∈A.Lf,l.length<1000)
  (e18:(zy T).call 18 [zk p] [] 0 []=some (k5 O,[],0,[]))(hO:O.cb= !(O.c.map x8).isEmpty)(e18q:(zy T).call 18 [zk q] [] 0 []=some (k5 Q,[],0,[]))(hQ:Q.cb= !(Q.c.map x8).isEmpty)(e54:(zy T).call 54 [zk M] [] 0 []=some (zk M,[],0,[]))(e18m:(zy T).call 18 [zk M] [] 0 []=some (k5 N,[],0,[]))(hN:N.cb= !(N.c.map x8).isEmpty)
  (S:Setting O Q N A sz p.c.length E El Em):vp p q M A sz 0 0 0 (List.replicate p.c.length 0) 0=gf p q M A sz E (2^p.c.length):=by
 have h0:vp p q M A sz 0 0 0 (List.replicate p.c.length 0) 0=gf p q M A sz E 0:=by
  unfold gf;congr 1;unfold ju q9;simp[cnt];exact(List.eq_replicate_iff.2 ⟨by simp,by simp⟩).symm
 have key:∀k,k≤2^p.c.length→gf p q M A sz E 0=gf p q M A sz E k:=by
  intro k
  induction k with
  |zero=>intro _;rfl
  |succ k ih=>intro hk;rw[ih (by omega)];exact step14 p q M O Q N A sz E El Em h5 hA hA2 e18 hO e18q hQ e54 e18m hN S k (by omega)
 rw[h0];exact key _ (Nat.le_refl _)
def zbf(p:Pk)(A:Ans)(sz sm al:Int)(r:List Int)(i:Nat):Option Out:=
 (zy T).loop false [.code (.loop b14_6),.inBlock 12,.code zip]
  ⟨14,435,0,[(2,.ptr 0 0 0),(7,.sl A.b2 1 (A.Wc.map km)),(9,.sl A.b3 1 (A.Wp.map km)),(11,.sl A.b4 2 (A.Pf.map q7)),(18,.int .i64 sz),(20,.int .i64 sm),(21,.ref 1),(22,.int .i64 al),
   (340,.sl p.cb 3 (p.c.map x8)),(341,.int .i64 p.c.length),(342,.int .i64 i)],
   [.cells true true 25 [zk p],.cells false true 3 (r.map zx)],0,[]⟩
theorem yok(haw:(zy T).call 16 [] [] 0 []=some (.bool true,[],0,[]))(p q M O:Pk)(A:Ans)(sz fo sm al:Int)(r:List Int)(s:List UInt8)(W:List V)(C:List V)
  (e18:(zy T).call 18 [zk p] [] 0 []=some (k5 O,[],0,[]))(hO:O.cb= !(O.c.map x8).isEmpty)
  (hfo:(fo !=A.Lf.length)=false)
  (e92:(zy T).call 92 [zk O] [] 0 []=some (.tup [.str s,.int .i64 0],[],0,[]))
  (e93:(zy T).call 93 [.str s] [] 0 []=some (.tup [wt 3 W,.int .i64 0,.int .i64 0],[],0,[]))
  (e97:∀b,(zy T).call 97 [.sl b 3 W] [] 0 []=some (wt 3 C,[],0,[]))
  (e96:∀b,(zy T).call 96 [.sl b 3 C,.sl p.cb 3 (p.c.map x8)] [] 0 []=some (.bool true,[],0,[])):
  vp p q M A sz fo sm al r (2^p.c.length)=if(al==0)=true then(if(A.E==18)=true then some (.ret (.bool true),[],0,[])else some (.ret (.bool false),[],0,[]))else(if(A.E==18)=true then some (.ret (.bool false),[],0,[])else zbf p A sz sm al r 0):=by
 have hE:=xz (2^p.c.length);unfold vp zbf;rw[zj];simp only[zk,k5,hO,zcl,show((0:Nat):Int)=0 from rfl]at*;cases h:(al==0)
 ·cases h2:(A.E==18)
  ·simp -implicitDefEqProofs only[go_sem,simprocAttr,hE,hfo,e18,e92,e93,e97,e96,h,h2,Bool.not_false]
   done
  ·simp -implicitDefEqProofs only[go_sem,simprocAttr,hE,hfo,e18,e92,e93,e97,e96,h,h2]
   done
 ·cases h2:(A.E==18)
  ·simp -implicitDefEqProofs only[go_sem,simprocAttr,hE,hfo,e18,e92,e93,e97,e96,h,h2,haw]
   done
  ·simp -implicitDefEqProofs only[go_sem,simprocAttr,hE,hfo,e18,e92,e93,e97,e96,h,h2,haw]
   done
theorem xa6(p:Pk)(h5:p.c.length≤5)(A:Ans)(sz sm al:Int)(r:List Int)(hrl:r.length=p.c.length)(hw1:A.Wc.length<1000000)(hw2:A.Wp.length<1000000)
  (hc:∀i (h:i<p.c.length) (g:i<r.length),zai p.c[i].n A.Wc=(r[i]==al)∧zai p.c[i].n A.Wp=decide (0<r[i])):∀i,i≤p.c.length→
  zbf p A sz sm al r i=zbf p A sz sm al r p.c.length:=by
 refine xv p.c.length rfl fun i hi ih=> ?_;obtain⟨h1,h2,h3,h4,h5⟩:=zr hi (by omega);have hi2:i<r.length:=by omega
 obtain⟨g1,g2⟩:=hc i hi hi2;have h6:(p.c.map x8)[i]? =some (x8 p.c[i]):=by rw[List.getElem?_map,h3];rfl
 have h7:(r.map zx)[i]? =some (zx r[i]):=by rw[List.getElem?_map,List.getElem?_eq_getElem hi2];rfl
 have h8:r[i]? =some r[i]:=List.getElem?_eq_getElem hi2;have h9:decide (0≤(i:Int)∧(i:Int)<(r.length:Int))=true:=decide_eq_true ⟨by omega,by omega⟩;have e1:=c99 p.c[i].n A.b2 A.Wc hw1;have e2:=c99 p.c[i].n A.b3 A.Wp hw2;rw[g1]at e1;rw[g2]at e2;rw[←ih]
 conv=>lhs;unfold zbf;rw[zj]
 unfold zbf;simp only[zk];generalize p.c[i]=c at*;generalize r[i]=x at*;cases hx:(x==al)<;>cases hy:decide (0<x)<;>rw[hx]at e1<;>rw[hy]at e2
 ·simp -implicitDefEqProofs only[go_sem,simprocAttr,h1,h2,h3,h4,h6,h7,h8,h9,e1,e2,hx,hy,x8,zx]
 all_goals simp -implicitDefEqProofs only[go_sem,simprocAttr,h1,h2,h3,h4,h6,h7,h8,h9,e1,e2,hx,hy,x8,zx]
def ytn(n k:Nat):Int:=((fwr ((k:Int)+1) (setsN n)).length:Nat)
theorem xma{n k:Nat}(hn:n≤5)(hk:k<n):(zy T).call 100 [.int .i64 n,.int .i64 k] [] 0 []=some (.int .i64 (ytn n k),[],0,[]):=
 match n,k,hn,hk with
 |1,0,_,_=>jh ql 100000 (by kernel_rfl)
 |2,0,_,_=>jh ql 100000 (by kernel_rfl)
 |2,1,_,_=>jh ql 100000 (by kernel_rfl)
 |3,0,_,_=>jh ql 100000 (by kernel_rfl)
 |3,1,_,_=>jh ql 100000 (by kernel_rfl)
 |3,2,_,_=>jh ql 100000 (by kernel_rfl)
 |4,0,_,_=>jh ql 100000 (by kernel_rfl)
 |4,1,_,_=>jh ql 100000 (by kernel_rfl)
 |4,2,_,_=>jh ql 100000 (by kernel_rfl)
 |4,3,_,_=>jh ql 100000 (by kernel_rfl)
 |5,0,_,_=>jh ql 100000 (by kernel_rfl)
 |5,1,_,_=>jh ql 100000 (by kernel_rfl)
 |5,2,_,_=>jh ql 100000 (by kernel_rfl)
 |5,3,_,_=>jh ql 100000 (by kernel_rfl)
 |5,4,_,_=>jh ql 100000 (by kernel_rfl)
theorem xms(tys:List TypeId)(a b:Int)(k:V→Prog):vj T .min tys [.int .i64 a,.int .i64 b] k=k (.int .i64 (if b<a then b else a)):=rfl
def k6(k:Nat):List (Int×Int):=List.replicate k (0,0)
def zcb(p:Pk)(sz:Nat)(k:Nat):Option Out:=
 (zy T).loop false [.code (.loop b14_7),.inBlock 14,.code (r14_88.seq (r14_89.seq Code.ret)),.code (r14_90.seq Code.ret)]
  ⟨14,435,0,[(2,.ptr 0 0 0),(18,.int .i64 sz),(44,.ref 1),(406,.int .i64 ((2^p.c.length:Nat):Int)),(407,.int .i64 k)],
   [.cells true true 25 [zk p],.cells false true 100 ((k6 k).map q7)],0,[]⟩
theorem xa5(p:Pk)(h5:p.c.length≤5)(sz:Nat):∀k,k≤2^p.c.length→zcb p sz k=zcb p sz (2^p.c.length):=by
 have h32:=zg8 h5;refine xv (2^p.c.length) rfl fun k hk ih=> ?_;rw[←ih];have h1:decide ((k:Int)<((2^p.c.length:Nat):Int))=true:=decide_eq_true (by omega);have hw:IntKind.i64.wrap ((k:Int)+1)=((k+1:Nat):Int):=by rw[wrap64]<;>omega
 have hl:decide ((k6 k).length+1<maxRow)=true:=decide_eq_true (by unfold k6 maxRow;simp;omega);have hz:k6 (k+1)=k6 k++ [(0,0)]:=by unfold k6;rw[List.replicate_succ']
 have hzl:(k6 k).length=k:=by simp[k6]
 conv=>lhs;unfold zcb;rw[zj]
 unfold zcb;rw[hz,List.map_append];rw[hzl]at hl;generalize hZ:k6 k=Z at*;simp only[zk];simp -implicitDefEqProofs only[go_sem,simprocAttr,h1,hw,hl,hzl,q7,List.map_cons,List.map_nil]
theorem xhz(haw:(zy T).call 16 [] [] 0 []=some (.bool true,[],0,[]))(p O:Pk)(h5:p.c.length≤5)(sz:Nat)(m:Nat)(hm:m≤2^p.c.length)(hsz:sz<100)
  (e18:(zy T).call 18 [zk p] [] 0 []=some (k5 O,[],0,[]))(hO:O.cb= !(O.c.map x8).isEmpty)
  (e100:(zy T).call 100 [.int .i64 p.c.length,.int .i64 sz] [] 0 []=some (.int .i64 m,[],0,[]))
  (e46:(zy T).call 46 [zk O,.int .i64 ((sz+1:Nat):Int),.sl true 2 ((k6 m).map q7)] [] 0 []=some (.int .i64 19,[],0,[])):
  zcb p sz (2^p.c.length)=some (.ret (.bool true),[],0,[]):=by
 have h32:=zg8 h5;have hE:=xz (2^p.c.length);have hw:IntKind.i64.wrap ((sz:Int)+1)=((sz+1:Nat):Int):=by rw[wrap64]<;>omega
 have hzl:(k6 (2^p.c.length)).length=2^p.c.length:=by simp[k6]
 have ht:((k6 (2^p.c.length)).map q7).take (m- 0)=(k6 m).map q7:=by unfold k6;rw[Nat.sub_zero,←List.map_take,List.take_replicate,Nat.min_eq_left hm]
 have g1:decide (0≤(m:Int))=true:=decide_eq_true (by omega);have g2:decide (0≤m∧m≤2^p.c.length)=true:=decide_eq_true (by omega);have hmin:(if(m:Int)<((2^p.c.length:Nat):Int)then(m:Int)else((2^p.c.length:Nat):Int))=(m:Int):=by split<;>omega
 unfold zcb;rw[zj];simp only[zk,k5,hO]at*;simp -implicitDefEqProofs only[go_sem,simprocAttr,hE,e18,e100,e46,hw,hzl,haw,xms,hmin,ht,g1,g2]
theorem xh0(haw:(zy T).call 16 [] [] 0 []=some (.bool true,[],0,[]))(p O:Pk)(h5:p.c.length≤5)(A:Ans)(sz:Nat)(hsz:sz<100)(sm al:Int)(r:List Int)(m:Nat)(hm:m≤2^p.c.length)
  (e18:(zy T).call 18 [zk p] [] 0 []=some (k5 O,[],0,[]))(hO:O.cb= !(O.c.map x8).isEmpty)
  (hsm:((A.Pf.length:Int) !=sm)=false)(hpl:A.Pf.length<1000)
  (e46:(zy T).call 46 [zk O,.int .i64 sz,.sl true 2 (A.Pf.map q7)] [] 0 []=some (.int .i64 0,[],0,[]))
  (e46d:0<A.Pf.length→(zy T).call 46 [zk O,.int .i64 sz,.sl true 2 ((A.Pf.drop 1).map q7)] [] 0 []=some (.int .i64 2,[],0,[]))
  (e100:sz<p.c.length→(zy T).call 100 [.int .i64 p.c.length,.int .i64 sz] [] 0 []=some (.int .i64 m,[],0,[]))
  (e46z:sz<p.c.length→(zy T).call 46 [zk O,.int .i64 ((sz+1:Nat):Int),.sl true 2 ((k6 m).map q7)] [] 0 []=some (.int .i64 19,[],0,[])):
  zbf p A sz sm al r p.c.length=some (.ret (.bool true),[],0,[]):=by
 have hE:=xz p.c.length;have e47:=c47 A.b4 A.Pf (by omega);have e47d:=fun b=>c47 b (A.Pf.drop 1) (by simp;omega);have g1:decide (32<(maxRow:Int))=true:=by decide
 have g2:decide (0≤(p.c.length:Int))=true:=decide_eq_true (by omega);have g3:=zp9 h5;have h7:=xa5 p h5 sz 0 (by omega);have hd:((A.Pf.map q7).take A.Pf.length).drop 1=(A.Pf.drop 1).map q7:=by rw[List.take_of_length_le (by simp),List.map_drop]
 have main:zbf p A sz sm al r p.c.length=if decide ((sz:Int)<p.c.length)=true then zcb p sz 0 else some (.ret (.bool true),[],0,[]):=by
  unfold zbf zcb;rw[zj];simp only[zk,k5,hO,zip,k6,List.replicate_zero,List.map_nil,show((0:Nat):Int)=0 from rfl]at*;cases h:decide (0<(A.Pf.length:Int))
  ·cases h2:decide ((sz:Int)<p.c.length)
   ·simp -implicitDefEqProofs only[go_sem,simprocAttr,hE,e18,hsm,e47,e46,h,h2,haw,g1,g2,g3]
   ·simp -implicitDefEqProofs only[go_sem,simprocAttr,hE,e18,hsm,e47,e46,h,h2,haw,g1,g2,g3]
  ·have e46d:=e46d (by simpa using h)
   have g4:decide (1≤A.Pf.length∧A.Pf.length≤A.Pf.length)=true:=decide_eq_true (by simp at h;omega);cases h2:decide ((sz:Int)<p.c.length)
   ·simp -implicitDefEqProofs only[go_sem,simprocAttr,hE,e18,hsm,e47,e46,h,h2,haw,g1,g2,g3,e46d,e47d,hd,g4]
   ·simp -implicitDefEqProofs only[go_sem,simprocAttr,hE,e18,hsm,e47,e46,h,h2,haw,g1,g2,g3,e46d,e47d,hd,g4]
 rw[main];split
 ·rename_i h
  have h:sz<p.c.length:=by simpa using h
  rw[h7];exact xhz haw p O h5 sz m hm hsz e18 hO (e100 h) (e46z h)
 ·rfl
theorem ym5(p q:Pk)(a b c:Int)(O:Pk)(h98:(zy T).call 98 [zk p] [] 0 []=some (.bool true,[],0,[]))(hn:decide (999745<p.n)=false)(A:Ans)(z1 z2 z3 z4:Nat)
 (hq:q=⟨O.vb,O.v,IntKind.i64.wrap (O.n+IntKind.i64.wrap a),O.cb,O.c⟩)
 (e18:(zy T).call 18 [zk p] [] 0 []=some (k5 O,[],0,[]))(hO:O.cb= !(O.c.map x8).isEmpty)
 (e36:(zy T).call 36 [zk O] [] 0 []=some (.tup [.sl A.b1 z1 (A.Lf.map jk),.int .i64 A.E],[],0,[]))
 (e37:(zy T).call 37 [zk O] [] 0 []=some (.tup [.sl A.b2 z2 (A.Wc.map km),.int .i64 A.E],[],0,[]))
 (e38:(zy T).call 38 [zk O] [] 0 []=some (.tup [.sl A.b3 z3 (A.Wp.map km),.int .i64 A.E],[],0,[]))
 (e45:(zy T).call 45 [zk O] [] 0 []=some (.tup [.sl A.b4 z4 (A.Pf.map q7),.int .i64 A.E],[],0,[]))
 (e88:(zy T).call 88 [zk p] [] 0 []=some (zk O,[],0,[]))
 (hz1:(Nat.beq z1 1|| !A.b1)=true)(hz2:(Nat.beq z2 1|| !A.b2)=true)(hz3:(Nat.beq z3 1|| !A.b3)=true)(hz4:(Nat.beq z4 2|| !A.b4)=true)
 (hE:(A.E=0∧0<A.Lf.length)∨(A.E=18∧A.Lf.length=0))
 (hL:zbg p q a b c A none 0=some (.ret (.bool true),[],0,[])):
 (zy T).call 14 [zk p,uw a b c] [] 0 []=some (.bool true,[],0,[]):=by
 rw[zop];unfold zbg at hL;subst hq;simp only[zk,k5,hO,uw,znx,zis,zcl,zip,xk,xu,show((0:Nat):Int)=0 from rfl]at*;obtain⟨E,b1,b2,b3,b4,Lf,Wc,Wp,Pf⟩:=A;dsimp only at*;rcases hE with⟨rfl,hl⟩|⟨rfl,hl⟩
 ·have hl:decide (0<(Lf.length:Int))=true:=decide_eq_true (by omega)
  simp -implicitDefEqProofs only[go_sem,simprocAttr,h98,hn,e18,e36,e37,e38,e45,e88,zb6 hz1,zb6 hz2,zb6 hz3,zb6 hz4,hl,hL]
 ·have hl:decide (0<(Lf.length:Int))=false:=decide_eq_false (by omega)
  simp -implicitDefEqProofs only[go_sem,simprocAttr,h98,hn,e18,e36,e37,e38,e45,e88,zb6 hz1,zb6 hz2,zb6 hz3,zb6 hz4,hl,hL]
theorem xlk(haw:(zy T).call 16 [] [] 0 []=some (.bool true,[],0,[]))(p:Pk)(a b c:Int)(h98:(zy T).call 98 [zk p] [] 0 []=some (.bool false,[],0,[])):(zy T).call 14 [zk p,uw a b c] [] 0 []=some (.bool true,[],0,[]):=by
 rw[zop];simp only[zk,uw]at*;simp -implicitDefEqProofs only[go_sem,simprocAttr,h98,haw]
theorem xlj(haw:(zy T).call 16 [] [] 0 []=some (.bool true,[],0,[]))(p:Pk)(a b c:Int)(h98:(zy T).call 98 [zk p] [] 0 []=some (.bool true,[],0,[]))(hn:decide (999745<p.n)=true):(zy T).call 14 [zk p,uw a b c] [] 0 []=some (.bool true,[],0,[]):=by
 rw[zop];simp only[zk,uw]at*;simp -implicitDefEqProofs only[go_sem,simprocAttr,h98,hn,haw]
theorem zp7(p:Pk)(st:List Int):wc (zp p) st=wc p st:=by
 unfold wc;rw[ymh]
 have h:(jt (zp p)).map (·.2)=(jt p).map (·.2):=by
  unfold jt;rw[ymd];unfold zp;simp only[List.map_map];rfl
 rw[h];rfl
theorem xjl(n b:Nat):zee n (bitS n b)=0:=by
 unfold zee;rw[xw];intro x hx;simp only[List.mem_cons,List.not_mem_nil,or_false]at hx;rcases hx with rfl|rfl
 ·rw[xw]
  intro y hy;obtain⟨i,hi,rfl⟩:=List.mem_map.1 hy;have:=zjq hi;unfold uc;have h1:decide (i<0)=false:=decide_eq_false (by omega);have h2:decide ((n:Int)≤i)=false:=decide_eq_false (by omega);rw[h1,h2];rfl
 ·exact xmj n b
theorem call29(P:Pk)(hf:P.fit)(h0:xy P=0)(n:Nat)(hn:P.c.length=n)(h5:n≤5)(b:Nat):(zy T).call 29 [zk (zp P),.sl true 1 ((bitS n b).map zx)] [] 0 []=some (.tup [.bool (wc P (bitS n b)).isEmpty,.int .i64 0],[],0,[]):=by
 have h:=c29 (zp P) true (bitS n b) (wy hf) (by have:=zgd n b;omega)
 have hs:u3 P (bitS n b)=0:=by
  unfold u3;rw[h0,hn,xjl];rfl
 rw[zg6,yt6,if_pos hs]at h;exact h
theorem xmk{n:Nat}(h5:n≤5){b:Nat}(hb:b<2^n):bitS n b∈setsN n:=(zgc h5).mem_iff.1 (List.mem_map.2 ⟨b,List.mem_range.2 hb,rfl⟩)
theorem yuj{n:Nat}(h5:n≤5){s:List Int}(h:s∈setsN n):s.length≤n:=by
 obtain⟨b,_,rfl⟩:=List.mem_map.1 ((zgc h5).mem_iff.2 h);exact zgd n b
theorem yui{n:Nat}(h5:n≤5):(setsN n).length=2^n:=by
 have:=(zgc h5).length_eq;simp at this;omega
theorem yql{p:Pk}(b:Nat):k9 p (bitS p.c.length b):=fun i hi=>zjq hi
theorem yuh{p q M:Pk}(hf:p.fit)(h0:xy p=0)(hfq:q.fit)(hq0:xy q=0)(hfM:M.fit)(hM0:xy M=0)(h5:p.c.length≤5)(qc:q.c.length=p.c.length)(Mc:M.c.length=p.c.length)(A:Ans)(sz:Int)
  (m1:∀st:List Int,st.length≤100→k9 p st→wc p st= []→wc q st= [])(m2:∀st,k9 p st→wc M st= []→wc p st= [])
  (h3:∀s∈kj p,sz≤(s.length:Int))(h4:∀s∈kj p,(s.length:Int)=sz→s∈A.Lf):
  Setting (zp p) (zp q) (zp M) A sz p.c.length (fun st=>(wc p st).isEmpty) (fun st=>(wc q st).isEmpty) (fun st=>(wc M st).isEmpty):=by
 have hin:∀b,b<2^p.c.length→(wc p (bitS p.c.length b)).isEmpty=true→bitS p.c.length b∈kj p:=fun b hb h=>List.mem_filter.2 ⟨xmk h5 hb,h⟩;refine⟨fun b hb=>call29 p hf h0 _ rfl h5 b,fun b hb=>call29 q hfq hq0 _ qc h5 b,fun b hb=>call29 M hfM hM0 _ Mc h5 b,fun b hb h=> ?_,fun b hb h=> ?_,fun b hb h=> ?_,fun b hb h he=>h4 _ (hin b hb h) he⟩
 ·have:=zgd p.c.length b
  show(wc q _).isEmpty=true;rw[m1 _ (by omega) (yql b) (List.isEmpty_iff.1 h)];rfl
 ·show(wc p _).isEmpty=true
  rw[m2 _ (yql b) (List.isEmpty_iff.1 h)];rfl
 ·have:=h3 _ (hin b hb h)
  exact decide_eq_false (by omega)
theorem ynx{p:Pk}(h5:p.c.length≤5):((q9 p.c.length (2^p.c.length)).filter fun st=>(wc p st).isEmpty).Perm (kj p):=(zgc h5).filter _
theorem xd9{p:Pk}{x0:List Int}(hp:(kj p).Pairwise (fun a b=>a.length≤b.length))(hx:(kj p)[0]? =some x0):∀s∈kj p,x0.length≤s.length:=by
 intro s hs;cases hc:kj p with
 |nil=>rw[hc]at hs;cases hs
 |cons a r=>
  rw[hc]at hs hx hp;obtain rfl:a=x0:=Option.some.inj hx;rcases List.mem_cons.1 hs with rfl|h
  ·exact Nat.le_refl _
  ·exact(List.pairwise_cons.1 hp).1 s h
theorem xin{l:List (List Int)}{x0:List Int}{n:Nat}(hc:Cut x0 l n){s:List Int}(hs:s∈l)(h:s.length≤x0.length):s∈l.take n:=by
 obtain⟨i,hi,rfl⟩:=List.mem_iff_getElem.1 hs;by_cases hin:i<n
 ·exact List.mem_iff_getElem.2 ⟨i,by simp;omega,by simp⟩
 ·have:=hc.hb i hi (by omega)
  omega
theorem xip{l:List (List Int)}{x0:List Int}{n:Nat}(hc:Cut x0 l n)(hmin:∀s∈l,x0.length≤s.length):l.countP (fun s=>((s.length:Int)==(x0.length:Int)))=n:=by
 conv=>lhs;rw[←List.take_append_drop n l]
 rw[List.countP_append]
 have h1:(l.take n).countP (fun s=>((s.length:Int)==(x0.length:Int)))=(l.take n).length:=by
  rw[List.countP_eq_length];intro s hs;obtain⟨i,hi,rfl⟩:=List.mem_iff_getElem.1 hs;have hi':i<n∧i<l.length:=by simp at hi;omega
  have a:=hc.ha i hi'.2 hi'.1;have b:=hmin l[i] (List.getElem_mem hi'.2);simp;omega
 have h2:(l.drop n).countP (fun s=>((s.length:Int)==(x0.length:Int)))=0:=by
  rw[List.countP_eq_zero];intro s hs;obtain⟨i,hi,rfl⟩:=List.mem_iff_getElem.1 hs;have hi':n+i<l.length:=by simp at hi;omega
  have a:=hc.hb (n+i) hi' (by omega);simp;omega
 rw[h1,h2,List.length_take];have:=hc.le;omega
theorem yun(g:Int→Int→Bool)(L:List (List Int))(w:List UInt8):∀(l:List Cz) (k:Nat),(∀c∈l,c.n≠w)→zai w ((jc g L k l).map fun c=>c.n)=false:=by
 intro l
 induction l with
 |nil=>intro k _;rfl
 |cons c r ih=>
  intro k h;have ih':=ih (k+1) (fun x hx=>h x (by simp[hx]));rw[jc];cases g (cnt k L) L.length
  ·rw[cond_false];exact ih'
  ·rw[cond_true,List.map_cons]
   unfold zai at*;rw[List.any_cons,ih'];have:=h c (by simp);simp[this]
theorem zqr(g:Int→Int→Bool)(L:List (List Int)):∀(l:List Cz) (k i:Nat) (hi:i<l.length),(∀a b (ha:a<b) (hb:b<l.length),(l[a]'(by omega)).n≠l[b].n)→zai l[i].n ((jc g L k l).map fun c=>c.n)=g (cnt ((k+i:Nat):Int) L) L.length:=by
 intro l
 induction l with
 |nil=>intro k i hi;cases hi
 |cons c r ih=>
  intro k i hi hd;cases i with
  |zero=>
   have hn:∀x∈r,x.n≠c.n:=fun x hx=>by
    obtain⟨j,hj,rfl⟩:=List.mem_iff_getElem.1 hx;have:=hd 0 (j+1) (by omega) (by simp;omega);simpa using fun e=>this e.symm
   have hf:=yun g L c.n r (k+1) hn;rw[jc];simp only[List.getElem_cons_zero,Nat.add_zero];cases g (cnt k L) L.length
   ·rw[cond_false];exact hf
   ·rw[cond_true,List.map_cons]
    unfold zai;rw[List.any_cons];simp
  |succ i=>
   have hi':i<r.length:=by simpa using hi
   have ih':=ih (k+1) i hi' (fun a b ha hb=>by
    have:=hd (a+1) (b+1) (by omega) (by simp;omega);simpa using this)
   have hne:c.n≠r[i].n:=by
    have:=hd 0 (i+1) (by omega) hi;simpa using this
   rw[jc];simp only[List.getElem_cons_succ];rw[show k+(i+1)=k+1+i by omega,←ih'];cases g (cnt k L) L.length
   ·rw[cond_false]
   ·rw[cond_true,List.map_cons]
    unfold zai;rw[List.any_cons];simp[hne]
theorem yyk{l:List Cz}(h:xa l=0):∀a b (ha:a<b) (hb:b<l.length),(l[a]'(by omega)).n≠l[b].n:=by
 intro a b ha hb e;unfold xa at h;split at h
 ·cases h
 ·have h1:=zf0 l l 0 b hb
  have h2:=xw.1 h _ h1;unfold uz at h2;have h3:=za5 (xw.1 h2 (cond (qi l (0+b) l[b]) 9 0) (by simp)) (by decide);unfold qi at h3;rw[Nat.zero_add,List.any_eq_false]at h3;have hm:l[a]'(by omega)∈l.take b:=List.mem_iff_getElem.2 ⟨a,by simp;omega,by simp⟩;have:=h3 _ hm;simp[e]at this
theorem yvf(nz:Int)(i:Nat)(x:Int×Int):∀(r:List Int) (k:Nat) (l:List (Int×Int)),x∈rowP nz i k r l→x.1=i∧(k:Int)≤x.2∧x.2<((k+r.length:Nat):Int):=by
 intro r
 induction r with
 |nil=>intro k l h;simp[rowP]at h
 |cons a r ih=>
  intro k l h;cases l with
  |nil=>simp[rowP]at h
  |cons b l=>
   rw[rowP]at h;simp only[List.length_cons];cases hb:gu nz a b
   ·rw[hb,cond_false]at h
    have:=ih _ _ h;omega
   ·rw[hb,cond_true]at h
    rcases List.mem_cons.1 h with rfl|h
    ·refine⟨rfl,?_,?_⟩
     ·exact Int.le_refl _
     ·show(k:Int)<_
      omega
    ·have:=ih _ _ h
     omega
theorem xm3(nz:Int)(x:Int×Int)(s:Nat):∀(R:List (List Int)) (i:Nat) (L:List (List (Int×Int))),(∀r∈R,r.length=s)→x∈allP nz i R L→(i:Int)≤x.1∧x.1<((i+R.length:Nat):Int)∧0≤x.2∧x.2<(s:Int):=by
 intro R
 induction R with
 |nil=>intro i L _ h;simp[allP]at h
 |cons a R ih=>
  intro i L hR h;cases L with
  |nil=>simp[allP]at h
  |cons b L=>
   rw[allP]at h;simp only[List.length_cons];rcases List.mem_append.1 h with h|h
   ·have:=yvf nz i x a 0 b h
    have:=hR a (by simp);omega
   ·have:=ih _ _ (fun r hr=>hR r (by simp[hr])) h
    omega
theorem ym6{p:Pk}(ho:Ok p){s:List Int}(h:wc p s≠ []):knP p.v.length (slots p) (hdP p s)=0∧w7 (hdP p s) (wc p s)=true:=by
 have hm:hdP p s∈wc p s:=by
  unfold hdP;cases hu:wc p s with
  |nil=>exact absurd hu h
  |cons a r=>simp
 constructor
 ·have hm2:=hm
  unfold wc at hm2
  have:=xm3 p.n (hdP p s) (slots p) ((jt p).map (·.2)) 0 (uj p s) (fun r hr=>by
   obtain⟨x,hx,rfl⟩:=List.mem_map.1 hr;exact zq0 ho x hx) hm2
  simp only[List.length_map,show(jt p).length=p.v.length by simp[jt]]at this;unfold knP zg7;rw[decide_eq_false (by omega),decide_eq_false (by omega),decide_eq_false (by omega),decide_eq_false (by omega)];rfl
 ·unfold w7
  rw[List.any_eq_true];exact⟨_,hm,by simp[zas]⟩
theorem xjq{p:Pk}(ho:Ok p):∀W:List (List Int),(∀s∈W,wc p s≠ [])→zb1 p W (W.map (hdP p))=0:=by
 intro W
 induction W with
 |nil=>intro _;rfl
 |cons s W ih=>
  intro h;rw[List.map_cons,zb1,(ym6 ho (h s (by simp))).2,cond_true];exact ih fun x hx=>h x (by simp[hx])
theorem xjr{p:Pk}:∀(W:List (List Int)) (r:List (Int×Int)),r.length=W.length→(∃s∈W,wc p s= [])→zb1 p W r=19:=by
 intro W
 induction W with
 |nil=>rintro r _ ⟨s,hs,_⟩;cases hs
 |cons s W ih=>
  rintro r hr ⟨t,ht,he⟩;cases r with
  |nil=>simp at hr
  |cons x r=>
   rw[zb1];cases hh:w7 x (wc p s)
   ·rfl
   ·rw[cond_true]
    refine ih r (by simpa using hr) ?_;rcases List.mem_cons.1 ht with rfl|ht
    ·rw[he]at hh;simp[w7]at hh
    ·exact⟨t,ht,he⟩
theorem ywu{p:Pk}(ho:Ok p)(n:Int)(hn:kq n 0 p.c.length=0)(h:∀s∈fwr n (setsN p.c.length),wc p s≠ []):zbz p n ((fwr n (setsN p.c.length)).map (hdP p))=0:=by
 unfold zbz;rw[if_pos hn,if_neg (by simp),if_pos,xjq ho _ h];rw[xw];intro x hx;rw[List.map_map]at hx;obtain⟨s,hs,rfl⟩:=List.mem_map.1 hx;exact(ym6 ho (h s hs)).1
theorem ywt{p:Pk}(n:Int)(hn:kq n 0 p.c.length=0)(pr:List (Int×Int))(h:pr.length≠(fwr n (setsN p.c.length)).length):zbz p n pr=2:=by
 unfold zbz;rw[if_pos hn,if_pos (by simp;omega)]
theorem ywv{p:Pk}(ho:Ok p)(n:Int)(hn:kq n 0 p.c.length=0)(h:∃s∈fwr n (setsN p.c.length),wc p s= []):zbz p n (k6 (fwr n (setsN p.c.length)).length)=19:=by
 unfold zbz;have h1:=ho.v1;have h2:=ho.s1;rw[if_pos hn,if_neg (by simp[k6]),if_pos,xjr _ _ (by simp[k6]) h];rw[xw];intro x hx;unfold k6 at hx;rw[List.map_replicate]at hx;rw[(List.mem_replicate.1 hx).2];have g1:decide ((p.v.length:Int)≤0)=false:=decide_eq_false (by omega);have g2:decide ((slots p:Int)≤0)=false:=decide_eq_false (by omega);unfold knP zg7;rw[g1,g2];rfl
theorem ylj(x:UInt8)(hx:∀f,qw f x.toNat=true):∀(l:List UInt8) (f:Bool),zaf f l=true→x∉l:=by
 intro l
 induction l with
 |nil=>intro f _ h;cases h
 |cons c l ih=>
  intro f h;rw[zaf,Bool.and_eq_true]at h;intro hm;rcases List.mem_cons.1 hm with rfl|hm
  ·rw[hx f]at h;simp at h
  ·exact ih false h.2 hm
theorem yym{l:List Cz}(h:xa l=0):∀c∈l,w5 c.n=true:=by
 intro c hc;obtain⟨k,hk,rfl⟩:=List.mem_iff_getElem.1 hc;unfold xa at h;split at h
 ·cases h
 ·have h1:=zf0 l l 0 k hk
  have h2:=xw.1 h _ h1;unfold uz at h2;have h3:=za5 (xw.1 h2 (cond (!w5 l[k].n) 8 0) (by simp)) (by decide);simpa using h3
theorem ywr{p:Pk}(ho:Ok p):∀c∈p.c,c.pr∧c.n.length≤24:=by
 intro c hc;have hn:=yym ho.cs c hc;unfold w5 at hn;simp only[Bool.and_eq_true,Bool.not_eq_true',decide_eq_true_iff]at hn;obtain⟨h1,h2,h3⟩:=hn;obtain⟨k1,k2,k3⟩:=ho.ca c hc;have v8:=ho.v8;refine⟨⟨⟨fun e=> ?_,ylj 32 (fun f=>by cases f<;>decide) _ _ h1,ylj 10 (fun f=>by cases f<;>decide) _ _ h1⟩,⟨k1,by omega⟩,fun x hx=> ?_⟩,h3⟩
 ·rw[e]at h2;cases h2
 ·have:=ho.lo c hc x hx
  omega
theorem ywp(l:List Cz)(h5:l.length≤5)(h:∀c∈l,c.n.length≤24∧c.l.length≤4):(printS l).length≤4096:=by
 have key:∀l:List Cz,(∀c∈l,c.n.length≤24∧c.l.length≤4)→(printS l).length≤l.length*500:=by
  intro l
  induction l with
  |nil=>intro _;simp[printS]
  |cons c l ih=>
   intro h;have h1:=h c (List.mem_cons_self ..);have h2:=ih fun x hx=>h x (List.mem_cons_of_mem _ hx);have e:printS (c::l)=lineS c++printS l:=rfl
   have hj:=zny [32] 24 (jg c) (fun w hw=>by
    unfold jg at hw;rcases List.mem_cons.1 hw with rfl|hw
    ·simp
    rcases List.mem_cons.1 hw with rfl|hw
    ·exact h1.1
    rcases List.mem_cons.1 hw with rfl|hw
    ·have:=zjb c.c;omega
    ·have:=zn1 c.l w hw;omega)
   have hw:(jg c).length=2*c.l.length+3:=by simp[jg,zit]
   have:(jg c).length*(24+1)≤11*25:=Nat.mul_le_mul_right _ (by omega);simp only[List.length_singleton]at hj;rw[e,List.length_append,List.length_cons,Nat.succ_mul];unfold lineS;simp only[List.length_append,List.length_singleton];omega
 have:=key l h;have:l.length*500≤5*500:=Nat.mul_le_mul_right _ h5;omega
theorem yk7(p:Pk):(zp p).c.map zjh=(zp p).c:=by
 unfold zp;simp only[List.map_map];rfl
theorem yk2{p:Pk}(hf:p.fit)(h0:xy p=0)(h5:p.c.length≤5)(h4:slots p≤4):
  (zy T).call 92 [zk (zp p)] [] 0 []=some (.tup [.str (printS (zp p).c),.int .i64 0],[],0,[])∧(zy T).call 93 [.str (printS (zp p).c)] [] 0 []=some (.tup [wt 3 ((zp p).c.map uf),.int .i64 0,.int .i64 0],[],0,[])∧
  (∀b,(zy T).call 97 [.sl b 3 ((zp p).c.map uf)] [] 0 []=some (wt 3 ((zp p).c.map czN),[],0,[]))∧∀b,(zy T).call 96 [.sl b 3 ((zp p).c.map czN),.sl p.cb 3 (p.c.map x8)] [] 0 []=some (.bool true,[],0,[]):=by
 have h0':=zic h0;have ho:=j7 h0';have hl:=zck p;have hp:=ywr ho;have hpl:(printS (zp p).c).length≤4096:=ywp _ (by omega) (fun c hc=>⟨(hp c hc).2,by rw[(ho.ca c hc).2.2,zhe];exact h4⟩);refine⟨?_,?_,fun b=>p97 b _ (by omega),fun b=> ?_⟩
 ·have h:=c92 (zp p) (wy hf) (fun _ c hc=>(xil (wy hf) h0' c hc).1) (fun _=>by omega)
  rw[if_pos h0',h0']at h;exact h
 ·have h:=c93 (printS (zp p).c) (by omega)
  rw[yw3 _ (fun c hc=>(hp c hc).1) hpl (by rw[yk7];exact ho.cs),yk7]at h;exact h
 ·have e:(zp p).c.map czN=(p.c.map fun c=>(⟨c.n,c.c,!(c.l.map jq).isEmpty,c.l⟩:Cz)).map x8:=by
   unfold zp;simp only[List.map_map];rfl
  rw[e];refine c96 b p.cb _ _ (by simp;omega) ⟨by simp,fun i h g=> ?_⟩ (fun c hc=> ?_)
  ·simp
  ·obtain⟨x,hx,rfl⟩:=List.mem_map.1 hc
   exact(hf.2.2.2 x hx).2
theorem xd8{p:Pk}(hf:p.fit)(d:Int):(zff p d).fit:=hf
theorem xd7{p:Pk}(hf:p.fit)(ho:Ok p)(b cb:Bool)(u:Int)(w:Int×Int):(j8 p b cb u w).fit:=by
 obtain⟨f1,f2,f3,f4⟩:=hf;have s8:=ho.s8;refine⟨by show(p.v.map _).length<1000;rw[List.length_map];exact f1,fun r hr=> ?_,by show(p.c.map _).length<1000;rw[List.length_map];exact f3,fun c hc=> ?_⟩
 ·obtain⟨r0,h0,rfl⟩:=List.mem_map.1 hr
  show(r0.2++ [u]).length<1000;rw[List.length_append,ho.row r0 h0];simp;omega
 ·obtain⟨c0,h0,rfl⟩:=List.mem_map.1 hc
  refine⟨(f4 c0 h0).1,?_⟩;show(c0.l++ [w]).length<1000000;rw[List.length_append,(ho.ca c0 h0).2.2];simp;omega
theorem xdy{p:Pk}(hs:slots p<8)(u:Int)(hu:0≤u∧u≤1000000)(w:Int×Int)(hw:ku w=0):fuE p (List.replicate p.v.length u) (List.replicate p.c.length w)=0:=by
 unfold fuE;rw[xw];intro x hx;simp only[List.mem_cons,List.not_mem_nil,or_false,List.length_replicate]at hx;rcases hx with rfl|rfl|rfl|rfl|rfl
 ·simp
 ·rw[xw]
  intro y hy;rw[List.map_replicate]at hy;rw[(List.mem_replicate.1 hy).2];exact zdn hu
 ·simp
 ·rw[xw]
  intro y hy;rw[List.map_replicate]at hy;rw[(List.mem_replicate.1 hy).2];exact hw
 ·rw[decide_eq_false (by omega)];rfl
theorem xjm{c:Int}(hc:0≤c∧c≤1000000):ku (0,c)=0:=by
 unfold ku;rw[xw];intro x hx;simp only[List.mem_cons,List.not_mem_nil,or_false]at hx;rcases hx with rfl|rfl|rfl
 ·rfl
 ·exact zdn hc
 ·rw[decide_eq_false (by omega)];rfl
theorem yqx{α:Type}(n:Nat)(x:α)(h:0<n):qj none (List.replicate n x)=some (List.replicate n x):=by
 cases n with
 |zero=>omega
 |succ n=>rfl
theorem xj9(p:Pk)(hf:p.fit)(h:xy p=0)(vs:List Int)(w:Int×Int)(hb:vs.length<1000000)(hx:fuE p vs (List.replicate p.c.length w)=0)(hr:∀r∈p.v,r.1=true)(hc:∀c∈p.c,c.b=true):
  (zy T).call 50 [zk p,.sl true 1 (vs.map zx),vv jq 0 2 (qj none (List.replicate p.c.length w))] [] 0 []=some (.tup [.agg [.sl true 1 ((List.zipWith xo p.v vs).map j0),.int .i64 p.n,wt 3 ((List.zipWith q8 p.c (List.replicate p.c.length w)).map x8)],.int .i64 0],[],0,[]):=by
 have hl:=(j7 h).c8;by_cases h0:p.c.length=0
 ·have hpc:p.c= []:=List.length_eq_zero_iff.1 h0
  have e:List.replicate p.c.length w= []:=by rw[h0];rfl
  rw[e]at hx⊢;exact xj8 p hf h true false vs hb hpc hx hr hc
 ·rw[yqx _ _ (by omega),zgv]
  exact c50 p hf h true true vs _ hb (by simp;omega) hx hr hc
theorem yuf(z:Nat)(l:List V):wt z l= .sl (!l.isEmpty) (bif l.isEmpty then 0 else z) l:=by cases l<;>rfl
def zag(p:Pk)(a:Int):Pk:=zff (zp p) a
def zav(p:Pk)(b c:Int):Pk:=j8 (zp p) true (!(((zp p).c.map fun x=>q8 x (0,c)).map x8).isEmpty) b (0,c)
theorem zp6(haw:(zy T).call 16 [] [] 0 []=some (.bool true,[],0,[]))(p:Pk)(hf:p.fit)(h0:xy p=0)(h5:p.c.length≤5)(h4:slots p≤4)(hn:p.n≤999745)(a b c:Int)(ha:0≤a∧a≤255)(hb:0≤b∧b≤255)(hc:0≤c∧c≤255)
  (A:Ans)(sz:Int)(hA:A.Lf.length<1000)(hA2:∀l∈A.Lf,l.length<1000)(hL:(A.Lf.length=0∧sz=99)∨∃s0:List Int,A.Lf[0]? =some s0∧sz=s0.length)
  (h3:∀s∈kj p,sz≤(s.length:Int))(h3':∀s∈kj p,(s.length:Int)=sz→s∈A.Lf):
  zbg p (zag p a) a b c A none 0=gf p (zag p a) (zav p b c) A sz (fun st=>(wc p st).isEmpty) (2^p.c.length):=by
 have ho:=j7 h0;have h0':=zic h0;have hoO:=j7 h0';have hfO:=wy hf;have hlO:=zck p;have hvO:(zp p).v.length=p.v.length:=by unfold zp;simp
 have hsO:=zhe p;have w1:IntKind.i64.wrap b=b:=by rw[wrap64]<;>omega
 have w2:IntKind.i64.wrap c=c:=by rw[wrap64]<;>omega
 have hv1:=ho.v1;have hv8:=ho.v8;have hck:=xjm (c:=c) (by omega);have hq0:xy (zag p a)=0:=xjk hoO a ha.1 (by show(zp p).n+a≤1000000;show p.n+a≤1000000;omega);have hM0:xy (zav p b c)=0:=xjj hoO (by rw[hsO];omega) _ _ b (by omega) _ hck;have hoq:=j7 hq0;have hoM:=j7 hM0;have hfq:(zag p a).fit:=xd8 hfO a;have hfM:(zav p b c).fit:=xd7 hfO hoO _ _ _ _
 have hcM:(zav p b c).c.length=p.c.length:=by
  show((zp p).c.map _).length=_;rw[List.length_map,hlO]
 rw[xbb p _ (by omega) a b c A 0 (by omega) none rfl,List.drop_zero,yqx _ _ hv1,xef,xba p _ (by omega) a b c A _ 0 (by omega) none rfl,List.drop_zero,w1,w2]
 have e50:=xj9 (zp p) hfO h0' (List.replicate (zp p).v.length b) (0,c) (by simp;omega) (xdy (by rw[hsO];omega) b (by omega) _ hck) (fun r hr=>by
   obtain⟨x,_,rfl⟩:=List.mem_map.1 hr;rfl) (fun x hx=>by
   obtain⟨y,_,rfl⟩:=List.mem_map.1 hx;rfl)
 rw[yq6,yq7,hvO,hlO]at e50;have e54:=c54 (zav p b c) (by omega);have e20:=c20 (zav p b c) hfM;rw[hM0]at e20;rw[xee p (zag p a) (zp p) (zav p b c) a b c A _ _ h5 rfl rfl sz (c18 p hf) rfl e50 e54 e20 hL]
 refine xm7 p (zag p a) (zav p b c) (zp p) (zp (zag p a)) (zp (zav p b c)) A sz _ _ _ h5 hA hA2 (c18 p hf) rfl (c18 _ hfq) rfl e54 (c18 _ hfM) rfl
  (yuh hf h0 hfq hq0 hfM hM0 h5 (show(zp p).c.length=p.c.length from hlO) hcM A sz (fun st hs hv hu=> ?_) (fun st hv hu=> ?_) h3 h3')
 ·refine ys7 hoO a ha.1 (by show p.n+a≤1000000;omega) hoq st hs (fun i hi=>by rw[hlO];exact hv i hi) ?_
  rw[zp7];exact hu
 ·have:=ys6 hoO _ _ b (0,c) hoM st (fun i hi=>by rw[hlO];exact hv i hi) hu
  rw[zp7]at this;exact this
theorem q14(p:Pk)(a:Int)(ha:0≤a∧a≤255)(hn:0≤p.n∧p.n≤999745):zag p a=⟨(zp p).vb,(zp p).v,IntKind.i64.wrap ((zp p).n+IntKind.i64.wrap a),(zp p).cb,(zp p).c⟩:=by
 have w1:IntKind.i64.wrap a=a:=by rw[wrap64]<;>omega
 have w2:IntKind.i64.wrap ((zp p).n+a)=(zp p).n+a:=by
  show IntKind.i64.wrap (p.n+a)=p.n+a;rw[wrap64]<;>omega
 rw[w1,w2];rfl
theorem yol{p:Pk}(hf:p.fit)(ho:Ok p):(zy T).call 88 [zk p] [] 0 []=some (zk (zp p),[],0,[]):=by
 have h:=c88 p hf;have hv:=ho.v1;rw[h];unfold zia zk zp;cases hp:p.v with
 |nil=>rw[hp]at hv;cases hv
 |cons x r=>rfl
theorem xll(haw:(zy T).call 16 [] [] 0 []=some (.bool true,[],0,[]))(p:Pk)(hf:p.fit)(h98:(zy T).call 98 [zk p] [] 0 []=some (.bool true,[],0,[]))(h0:xy p=0)(h5:p.c.length≤5)(h4:slots p≤4)(hn:p.n≤999745)(a b c:Int)(ha:0≤a∧a≤255)(hb:0≤b∧b≤255)(hc:0≤c∧c≤255)
  (hx:kj p= []):(zy T).call 14 [zk p,uw a b c] [] 0 []=some (.bool true,[],0,[]):=by
 have ho:=j7 h0;have h0':=zic h0;have hs:Sok (zp p):=zqk (by rw[zck];omega);have hx':exA (zp p)= []:=by rw[zfs];exact hx
 have e36:=xkb (zp p) 18 (by decide) _ _ (zpc (zp p) (wy hf) h0' hs hx');have e37:=c37 (zp p) .undef _ _ _ _ (yp7 132 (zp p) (wy hf) h0' hs hx') (.inr rfl);have e38:=c38 (zp p) .undef _ _ _ _ (yp7 133 (zp p) (wy hf) h0' hs hx') (.inr rfl);have e45:=xka (zp p) 18 (by decide) _ _ (zpc (zp p) (wy hf) h0' hs hx');refine ym5 p (zag p a) a b c (zp p) h98 (decide_eq_false (by omega)) ⟨18,false,false,false,false,[],[],[],[]⟩ 0 1 1 0 (q14 p a ha ⟨ho.no.1,hn⟩) (c18 p hf) rfl e36 e37 e38 e45 (yol hf ho) rfl rfl rfl rfl (.inr ⟨rfl,rfl⟩) ?_;rw[zp6 haw p hf h0 h5 h4 hn a b c ha hb hc _ 99 (by simp) (fun l hl=>by cases hl) (.inl ⟨rfl,rfl⟩) (fun s hs'=>by rw[hx]at hs';cases hs') (fun s hs'=>by rw[hx]at hs';cases hs')]
 have hX:((q9 p.c.length (2^p.c.length)).filter fun st=>(wc p st).isEmpty)= []:=by
  have:=ynx h5;rw[hx]at this;exact this.eq_nil
 obtain⟨e92,e93,e97,e96⟩:=yk2 hf h0 h5 h4;unfold gf;rw[hX,yok haw p _ _ (zp p) _ _ _ _ _ _ _ _ _ (c18 p hf) rfl (by rfl) e92 e93 e97 e96];rfl
theorem xlm(haw:(zy T).call 16 [] [] 0 []=some (.bool true,[],0,[]))(p:Pk)(hf:p.fit)(h98:(zy T).call 98 [zk p] [] 0 []=some (.bool true,[],0,[]))(h0:xy p=0)(h5:p.c.length≤5)(h4:slots p≤4)(hn:p.n≤999745)(a b c:Int)(ha:0≤a∧a≤255)(hb:0≤b∧b≤255)(hc:0≤c∧c≤255)
  (hx:kj p≠ []):(zy T).call 14 [zk p,uw a b c] [] 0 []=some (.bool true,[],0,[]):=by
 have ho:=j7 h0;have h0':=zic h0;have h6:p.c.length≤6:=by omega
 have hlO:=zck p;have hs:Sok (zp p):=zqk (by rw[zck];omega);have hx':exA (zp p)≠ []:=by rw[zfs];exact hx
 obtain⟨⟨sl1,sl2⟩,sm1,sm2,spw⟩:=zhh _ h6
 have k1:(kj p).length<1000:=by
  have:(kj p).length≤(setsN p.c.length).length:=List.length_filter_le _ _;omega
 have hpw:(kj p).Pairwise (fun a b=>a.length≤b.length):=spw.sublist List.filter_sublist;obtain⟨x0,n,hx0,hcut,hfl⟩:=xim hpw k1 hx;have hmin:=xd9 hpw hx0;have hx0m:x0∈kj p:=List.mem_of_getElem? hx0;have hx0s:x0∈setsN p.c.length:=(List.mem_filter.1 hx0m).1;have hx0l:=yuj h5 hx0s;have hx0e:wc p x0= []:=List.isEmpty_iff.1 (List.mem_filter.1 hx0m).2
 have hn0:0<n:=by
  have h1:=hcut.hb 0 (by have:=(List.getElem?_eq_some_iff.1 hx0).1;exact this);have h2:(kj p)[0]'((List.getElem?_eq_some_iff.1 hx0).1)=x0:=(List.getElem?_eq_some_iff.1 hx0).2;rw[h2]at h1;omega
 have hnl:=hcut.le;have e36:=c36 (zp p) (wy hf) h0' hs x0 n (by rw[zfs];exact hcut);have e37:=c37 (zp p) .undef _ _ _ _ (yp8 132 _ xc2 (zp p) (wy hf) h0' hs hx') (.inl rfl);have e38:=c38 (zp p) .undef _ _ _ _ (yp8 133 _ xc1 (zp p) (wy hf) h0' hs hx') (.inl rfl);have e45:=c45 (zp p) (wy hf) h0' hs hx' x0 (by rw[zfs];exact hx0);rw[zfs]at e36 e37 e38;rw[yuo]at e37 e38;rw[hlO]at e45;have hnw:∀s∈setsN p.c.length,(s.length:Int)<x0.length→wc p s≠ []:=fun s hs' hl=>ys5 hx0 hpw hs' hl;rw[yww p x0.length (setsN p.c.length) spw hnw]at e45
 have hfw:∀s∈fwr x0.length (setsN p.c.length),wc p s≠ []:=fun s hs'=>by
  obtain⟨q1,q2⟩:=List.mem_filter.1 hs';exact hnw s q1 (by simpa using q2)
 have hslz:=yui h5;have h32:=zg8 h5
 have hfwl:∀z,(fwr z (setsN p.c.length)).length≤2^p.c.length:=fun z=>by
  rw[←hslz];exact List.length_filter_le _ _
 have hfz:=hfwl x0.length;have hW1:=zqs (fun a b=>a==b) (kj p) p.c 0;have hW2:=zqs (fun a b=>decide (0<a)) (kj p) p.c 0;generalize hPf:(fwr (x0.length:Int) (setsN p.c.length)).map (hdP p)=Pf at*;rw[yuf]at e45;have hPl:Pf.length=(fwr (x0.length:Int) (setsN p.c.length)).length:=by rw[←hPf,List.length_map]
 refine ym5 p (zag p a) a b c (zp p) h98 (decide_eq_false (by omega)) ⟨0,true,_,_,!(Pf.map q7).isEmpty,(kj p).take n,_,_,Pf⟩ 1 1 1 (bif (Pf.map q7).isEmpty then 0 else 2) (q14 p a ha ⟨ho.no.1,hn⟩) (c18 p hf) rfl e36 e37 e38 e45 (yol hf ho) rfl rfl rfl
  (by cases (Pf.map q7).isEmpty<;>rfl) (.inl ⟨rfl,by simp;omega⟩) ?_
 have ht0:((kj p).take n)[0]? =some x0:=by rw[List.getElem?_take];simp[hn0,hx0]
 rw[zp6 haw p hf h0 h5 h4 hn a b c ha hb hc _ x0.length (by simp;omega) (fun l hl=>by have:=sm2 l (List.mem_filter.1 (List.mem_of_mem_take hl)).1;omega) (.inr ⟨x0,ht0,rfl⟩) (fun s hs'=>by have:=hmin s hs';omega) (fun s hs' he=>xin hcut hs' (by omega))];have hX:=ynx h5;have hB:=zgc h5;obtain⟨e92,e93,e97,e96⟩:=yk2 hf h0 h5 h4;unfold gf;generalize hXe:((q9 p.c.length (2^p.c.length)).filter fun st=>(wc p st).isEmpty)=X at*;have hXl:X.length=(kj p).length:=hX.length_eq;have hXc:X.countP (fun s=>((s.length:Int)==(x0.length:Int)))=n:=by rw[hX.countP_eq];exact xip hcut hmin
 have hpos:0<(kj p).length:=List.length_pos_iff.2 hx;rw[yok haw p _ _ (zp p) _ _ _ _ _ _ _ _ _ (c18 p hf) rfl (by rw[hXc];simp;omega) e92 e93 e97 e96];have g1:(((X.length:Nat):Int)==0)=false:=by rw[hXl];simp;omega
 rw[g1];simp only[if_neg (show¬(false=true) by simp)];rw[if_neg (show¬(((0:Int)==18)=true) by decide)]
 have hcR:∀i (h:i<(ju p.c.length X).length),(ju p.c.length X)[i]=((cnt i (kj p):Nat):Int):=fun i h=>by
  have:(ju p.c.length X)[i]=((cnt i X:Nat):Int):=by simp[ju]
  rw[this];congr 1;exact hX.countP_eq _
 rw[xa6 p h5 _ _ _ _ _ (by simp[ju]) (by show(zaa _ _ _).length<_;unfold zaa;rw[List.length_map];omega) (by show(zaa _ _ _).length<_;unfold zaa;rw[List.length_map];omega) (fun i h g=>by
  rw[hcR i g,hXl];have hd:=yyk ho.cs;have s1:=zqr (fun a b=>a==b) (kj p) p.c 0 i h hd;have s2:=zqr (fun a b=>decide (0<a)) (kj p) p.c 0 i h hd;rw[Nat.zero_add]at s1 s2;exact⟨s1,s2⟩) 0 (by omega)]
 have hrg:kq (x0.length:Int) 0 p.c.length=0:=zdn ⟨by omega,by omega⟩;have c46':=fun n pr hpr=>c46 (zp p) (wy hf) h0' hs (by rw[hlO];exact fun e=>by rw[e]at sl2;cases sl2) (by rw[hlO];exact spw) n pr hpr
 have hsm:(q9 p.c.length (2^p.c.length)).countP (fun s=>decide ((s.length:Int)<(x0.length:Int)))=Pf.length:=by
  rw[hPl,show q9 p.c.length (2^p.c.length)=(List.range (2^p.c.length)).map (bitS p.c.length)from rfl,hB.countP_eq,List.countP_eq_length_filter];rfl
 have hz:=ywu ho (x0.length:Int) hrg hfw;rw[hPf]at hz;refine xh0 haw p (zp p) h5 _ x0.length (by omega) _ _ _ (fwr ((x0.length:Int)+1) (setsN p.c.length)).length (hfwl _) (c18 p hf) rfl (by rw[hsm];simp) (by show Pf.length<1000;omega) ?_ (fun hp=> ?_) (fun hlt=> ?_) (fun hlt=> ?_)
 ·have e:=c46' x0.length Pf (by omega)
  rw[zo1,hz]at e;exact e
 ·have hp:0<Pf.length:=hp
  have e:=c46' x0.length (Pf.drop 1) (by simp;omega);rw[zo1,ywt (x0.length:Int) hrg _ (by simp;omega)]at e;exact e
 ·exact xma h5 hlt
 ·have hrg2:kq ((x0.length:Int)+1) 0 p.c.length=0:=zdn ⟨by omega,by omega⟩
  have e:=c46' ((x0.length:Int)+1) (k6 (fwr ((x0.length:Int)+1) (setsN p.c.length)).length) (by have:=hfwl ((x0.length:Int)+1);simp[k6];omega);rw[zo1,ywv ho ((x0.length:Int)+1) hrg2 ⟨x0,List.mem_filter.2 ⟨hx0s,by simp;omega⟩,hx0e⟩]at e;rw[show((x0.length+1:Nat):Int)=(x0.length:Int)+1 by omega];exact e
theorem c14(haw:(zy T).call 16 [] [] 0 []=some (.bool true,[],0,[]))(p:Pk)(a b c:Int)(ha:0≤a∧a≤255)(hb:0≤b∧b≤255)(hc:0≤c∧c≤255):(zy T).call 14 [zk p,uw a b c] [] 0 []=some (.bool true,[],0,[]):=by
 have h98:=c98 p;cases hs:smP p
 ·rw[hs]at h98
  exact xlk haw p a b c h98
 ·rw[hs]at h98
  by_cases hn:999745<p.n
  ·exact xlj haw p a b c h98 (decide_eq_true hn)
  ·unfold smP at hs
   simp only[Bool.and_eq_true,decide_eq_true_iff,beq_iff_eq]at hs;obtain⟨⟨⟨⟨s1,s2⟩,s3⟩,s4⟩,s5⟩:=hs;have hf:=ynk s1 (by have:=zqn s1;omega);by_cases hx:kj p= []
   ·exact xll haw p hf h98 s4 (by omega) (by omega) (by omega) a b c ha hb hc hx
   ·exact xlm haw p hf h98 s4 (by omega) (by omega) (by omega) a b c ha hb hc hx
end Go.Den.FaT
end
