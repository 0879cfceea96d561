import Derived.Test.YtjiidembdmfikaaGreatDoorZF
import Derived.Test.YtjiidembdmfikaaGreatDoorZG
import Derived.Laws.BytesString
set_option linter.all false
set_option maxHeartbeats 8000000
set_option maxRecDepth 100000
namespace Go.Den
open Go
section
variable {P:Program} {T:Tab} {slot:Option Nat} {m m':Mem} {x:V} {ih:Ih} {raw:Bool} {ev:Operand→V}
theorem ze0{ps:Array (Nat×Operand)}{ρ:Operand→Value}:(ps.map fun(i,x)=>(i,ρ x)).toList.map (·.1)=ps.toList.map (·.1)∧(ps.map fun(i,x)=>(i,ρ x)).toList.map (·.2)=ps.toList.map fun p=>ρ p.2:=by
 constructor<;>simp
def x7(P:Program)(T:Tab)(ev:Operand→V)(o:Oper)(m:Mem)(x:V)(m':Mem):Prop:=
 m'.S=m.S∧∀(G:Gh) (Os:List OG) (w:World) (ρ:Operand→Value),OpEnv G Os ev ρ→HeapRel G T w m.H m.Fz→MRel G T w→OpDoes P T m' x G Os w (execOp ρ o)
variable {dst:Option Tmp} {type:TypeId} {pos:String} {after:Array Edge} {guard:Option (Nat×Bool)}
theorem yt1(hT:TabOk P T)(a:Operand)(h:Res slot (opP ih T raw ev ⟨dst,.move a,type,pos,after,guard⟩) m x m'):x7 P T ev ⟨dst,.move a,type,pos,after,guard⟩ m x m':=by
 unfold opP at h;simp only at h;obtain⟨rfl,rfl⟩:=h.ret;refine⟨rfl,fun G Os w ρ he hH hM=>⟨_,ρ a,w,G,by simp[execOp],.inl rfl,.refl G w,hH,hM,he a⟩⟩
theorem yuk(hT:TabOk P T)(a:Operand)(h:Res slot (opP ih T raw ev ⟨dst,.assign a,type,pos,after,guard⟩) m x m'):x7 P T ev ⟨dst,.assign a,type,pos,after,guard⟩ m x m':=by
 unfold opP at h;simp only at h;obtain⟨rfl,rfl⟩:=h.ret;refine⟨rfl,fun G Os w ρ he hH hM=>⟨_,ρ a,w,G,by simp[execOp],.inl rfl,.refl G w,hH,hM,he a⟩⟩
theorem ytx(hT:TabOk P T)(c a b:Operand)(h:Res slot (opP ih T raw ev ⟨dst,.pick c a b,type,pos,after,guard⟩) m x m'):x7 P T ev ⟨dst,.pick c a b,type,pos,after,guard⟩ m x m':=by
 unfold opP at h;simp only at h;obtain⟨p,hp,h⟩:=h.toP;obtain⟨bv,hb,hp⟩:=zos hp;simp only[Option.some.injEq]at hp;subst hp;refine⟨?_,fun G Os w ρ he hH hM=> ?_⟩
 ·cases bv<;>(simp only[br]at h;obtain⟨_,rfl⟩:=h.ret;rfl)
 ·have hcv:=he c
  rw[hb]at hcv;have hcv:Rel G (.bool bv) (ρ c):=hcv;cases hρ:ρ c<;>rw[hρ]at hcv<;>cases hcv;cases bv with
  |true=>simp only[br]at h;obtain⟨rfl,rfl⟩:=h.ret;exact⟨_,ρ a,w,G,by simp[execOp,Go.asBool,hρ],.inl rfl,.refl G w,hH,hM,he a⟩
  |false=>simp only[br]at h;obtain⟨rfl,rfl⟩:=h.ret;exact⟨_,ρ b,w,G,by simp[execOp,Go.asBool,hρ],.inl rfl,.refl G w,hH,hM,he b⟩
theorem yul(hT:TabOk P T)(t:TypeId)(h:Res slot (opP ih T raw ev ⟨dst,.alloc t,type,pos,after,guard⟩) m x m'):x7 P T ev ⟨dst,.alloc t,type,pos,after,guard⟩ m x m':=by
 unfold opP at h;simp only at h;obtain⟨id,m1,h,hS,hr⟩:=xiv (P:=P) hT h;obtain⟨rfl,rfl⟩:=h.ret;refine⟨hS,fun G Os w ρ he hH hM=> ?_⟩;obtain⟨z,w',G',e1,e2,e3,e4,e5⟩:=hr G w hH hM;exact Does.op ⟨z,w',G',e1,e2,e3,e4,e5⟩
theorem yui(hT:TabOk P T)(t:TypeId)(a:Operand)(h:Res slot (opP ih T raw ev ⟨dst,.box t a,type,pos,after,guard⟩) m x m'):x7 P T ev ⟨dst,.box t a,type,pos,after,guard⟩ m x m':=by
 unfold opP at h;simp only at h;obtain⟨id,m1,h,hS,hE,hr⟩:=yom (P:=P) hT h;obtain⟨rfl,rfl⟩:=h.ret;refine⟨hS,fun G Os w ρ he hH hM=> ?_⟩;obtain⟨z,w',G',e1,_,_,e2,e3,e4,e5⟩:=hr G w (ρ a) ((he a).rel (zho hE)) hH hM;exact Does.op ⟨z,w',G',e1,e2,e3,e4,e5⟩
theorem yuh(hT:TabOk P T)(t:TypeId)(ps:Array (Nat×Operand))(h:Res slot (opP ih T raw ev ⟨dst,.build t ps,type,pos,after,guard⟩) m x m'):x7 P T ev ⟨dst,.build t ps,type,pos,after,guard⟩ m x m':=by
 unfold opP at h;simp only at h;obtain⟨p,hp,h⟩:=h.toP;obtain⟨u,hu,hr⟩:=xid (P:=P) hT hp;simp only[Option.some.injEq]at hu;subst hu;obtain⟨rfl,rfl⟩:=h.ret;refine⟨rfl,fun G Os w ρ he hH hM=> ?_⟩
 have hy:∀v∈ps.toList.map (fun p=>ev p.2),zm v=false:=by
  unfold zd2 at hp;have e0:(ps.toList.map fun(i,x)=>(i,ev x)).map (·.2)=ps.toList.map fun p=>ev p.2:=by simp
  split at hp
  ·obtain⟨_,hf,_⟩:=zas hp;rw[←e0];exact ymm hf
  ·obtain⟨_,hf,_⟩:=zas hp;rw[←e0];exact ymm hf
  ·cases hp
 obtain⟨z,hz,hrz⟩:=hr G w (ps.map fun(i,x)=>(i,ρ x)) (by simp) (by rw[ze0.2,List.map_map];exact ykz he ps.toList hy);exact vm hH hM hz hrz.toT
theorem yok(hT:TabOk P T){t e:TypeId}{n:Nat}{ps:Array (Nat×Operand)}(ht:T.td t= .slice e){vs:List V}{m0:Mem}(hl:vs.length=ps.toList.length)
  (h:Res slot (needP (decide (T.size e≠0∧n*T.size e≤65536)&&zg (T.size e) (T.zero e))<|
    optP (jo (T.size e) ((ps.toList.map (·.1)).zip vs) (List.replicate n (T.zero e))) fun l=>newP (.cells false (pureL l) e l) fun id=> .ret (.ref id)) m0 x m'):
  m'.S=m0.S∧(∀v∈vs,zm v=false)∧∀(G:Gh) (Os:List OG) (w:World) (qs:Array (Nat×Value)),qs.toList.map (·.1)=ps.toList.map (·.1)→LRel G vs (qs.toList.map (·.2))→HeapRel G T w m0.H m0.Fz→MRel G T w→
   OpDoes P T m' x G Os w (do pure (.value (←Instr.buildSlice t n qs))):=by
 have hl':vs.length=(ps.toList.map (·.1)).length:=by simpa using hl
 obtain⟨l,hf,_⟩:=h.needP.2.optP;have hyl:=xar hf;rw[(zo1 hl').2]at hyl;obtain⟨id,m1,h,hS,hr⟩:=xic (P:=P) (k:= .ret) hT ht hl' h;obtain⟨rfl,rfl⟩:=h.ret;exact⟨hS,hyl,fun G Os w qs hq hv hH hM=>(hr G w qs hq hv hH hM).op⟩
theorem yug(hT:TabOk P T)(t:TypeId)(n:Nat)(ps:Array (Nat×Operand))(h:Res slot (opP ih T raw ev ⟨dst,.buildSlice t n ps,type,pos,after,guard⟩) m x m'):x7 P T ev ⟨dst,.buildSlice t n ps,type,pos,after,guard⟩ m x m':=by
 unfold opP at h;simp only at h;split at h
 ·rename_i e ht
  split at h
  ·obtain⟨hS,hyl,hr⟩:=yok (P:=P) (ps:=ps) hT ht (by simp) h
   refine⟨hS,fun G Os w ρ he hH hM=>hr G Os w _ ze0.1 ?_ hH hM⟩;rw[ze0.2];exact ykz he ps.toList fun v hv=>hyl v (by simpa using hv)
  ·obtain⟨vs,m0,h,hS0,hl,hk,hf⟩:=zgg h
   obtain⟨hS,hyl,hr⟩:=yok (P:=P) (ps:=ps) hT ht (by rw[hl];simp) h;refine⟨hS.trans hS0,fun G Os w ρ he hH hM=> ?_⟩;obtain⟨G1,f1,_,r1⟩:=hf G w hH hM;refine OpDoes.frozen f1 (hr G1 Os w _ ze0.1 ?_ f1.heap f1.mem);rw[ze0.2];refine⟨by rw[hl];simp,fun i v y hv hy=> ?_⟩;have hi:i<(ps.toList.map fun(_,x)=>ev x).length:=by rw[←hl];exact(List.getElem?_eq_some_iff.1 hv).1
   have hiv:=List.getElem?_eq_getElem hi;refine r1 i _ v y hiv hv ?_;have hky:=(hk i _ v hiv hv).yld;rw[List.getElem?_map]at hy;cases hp:ps.toList[i]? with
   |none=>rw[hp]at hy;cases hy
   |some p=>
    rw[hp]at hy;simp only[Option.map_some,Option.some.injEq]at hy;subst hy;have e1:(ps.toList.map fun(_,x)=>ev x)[i]? =some (ev p.2):=by simp[List.getElem?_map,hp]
    rw[hiv]at e1;simp only[Option.some.injEq]at e1;rw[e1]at hky⊢;exact(he p.2).rel (by rw[←hky];exact hyl v (List.mem_of_getElem? hv))
 ·exact h.fail.elim
theorem yt8(hT:TabOk P T)(t:TypeId)(a:Operand)(h:Res slot (opP ih T raw ev ⟨dst,.load t a,type,pos,after,guard⟩) m x m'):x7 P T ev ⟨dst,.load t a,type,pos,after,guard⟩ m x m':=by
 unfold opP at h;simp only at h;have hy:=ylp h;obtain⟨v,h,hr⟩:=ylq (P:=P) hT h;obtain⟨rfl,rfl⟩:=h.ret;refine⟨rfl,fun G Os w ρ he hH hM=> ?_⟩;obtain⟨z,hz,hrz⟩:=hr G w (ρ a) ((he a).rel hy) hH hM;exact vm hH hM hz hrz.toT
theorem ytt(hT:TabOk P T)(t:TypeId)(a v:Operand)(h:Res slot (opP ih T raw ev ⟨dst,.store t a v,type,pos,after,guard⟩) m x m'):x7 P T ev ⟨dst,.store t a v,type,pos,after,guard⟩ m x m':=by
 unfold opP at h;simp only at h;obtain⟨m1,h,hS,hy1,hy2,hr⟩:=yqu (P:=P) hT h;obtain⟨rfl,rfl⟩:=h.ret;refine⟨hS,fun G Os w ρ he hH hM=> ?_⟩;obtain⟨w',G',e1,e2,e3,e4⟩:=hr G w (ρ a) (ρ v) ((he a).rel hy1) ((he v).rel hy2) hH hM;exact⟨.skip,Go.undef,w',G',by simp[execOp,e1],.inr ⟨rfl,rfl⟩,e2,e3,e4,.undef _⟩
theorem yty(hT:TabOk P T)(a:Operand)(h:Res slot (opP ih T raw ev ⟨dst,.nilCheck a,type,pos,after,guard⟩) m x m'):x7 P T ev ⟨dst,.nilCheck a,type,pos,after,guard⟩ m x m':=by
 unfold opP at h;simp only at h
 have fin:∀(v:V),ev a=v→Res slot (.ret v) m x m'→(∀(G:Gh) (Os:List OG) (y:Value),RelT G Os v y→(∀w:World,∀s1:Array Value,∀ρ:Operand→Value,ρ a=y→(execOp ρ ⟨dst,.nilCheck a,type,pos,after,guard⟩).run P w= .ok (.value y) w))→
   m'.S=m.S∧∀(G:Gh) (Os:List OG) (w:World) (ρ:Operand→Value),OpEnv G Os ev ρ→HeapRel G T w m.H m.Fz→MRel G T w→OpDoes P T m' x G Os w (execOp ρ ⟨dst,.nilCheck a,type,pos,after,guard⟩):=by
  intro v hv h hx;obtain⟨rfl,rfl⟩:=h.ret;refine⟨rfl,fun G Os w ρ he hH hM=> ?_⟩;have h1:=he a;rw[hv]at h1;exact⟨_,ρ a,w,G,hx G Os (ρ a) h1 w #[] ρ rfl,.inl rfl,.refl G w,hH,hM,h1⟩
 split at h
 ·rename_i hv;exact fin _ hv h fun G Os y hy w _ ρ hρ=>by cases (show Rel G _ y from hy)<;>simp[execOp,hρ]
 ·rename_i hv;exact fin _ hv h fun G Os y hy w _ ρ hρ=>by cases (show Rel G _ y from hy)<;>simp[execOp,hρ]
 ·rename_i hv;exact fin _ hv h fun G Os y hy w _ ρ hρ=>by cases (show Rel G _ y from hy)<;>simp[execOp,hρ]
 ·rename_i hv;exact fin _ hv h fun G Os y hy w _ ρ hρ=>by obtain⟨O,_,rfl⟩:=hy;simp[execOp,hρ]
 ·rename_i hv;exact fin _ hv h fun G Os y hy w _ ρ hρ=>by cases (show Rel G _ y from hy)<;>simp[execOp,hρ]
 ·exact h.fail.elim
theorem yuj(hT:TabOk P T)(op:BinOp)(t:TypeId)(a b:Operand)(yt:TypeId)(h:Res slot (opP ih T raw ev ⟨dst,.binOp op t a b yt,type,pos,after,guard⟩) m x m'):x7 P T ev ⟨dst,.binOp op t a b yt,type,pos,after,guard⟩ m x m':=by
 unfold opP at h;simp only at h;obtain⟨p,hp,h⟩:=h.toP;obtain⟨hy1,hy2⟩:=xim hp;obtain⟨v,hv,hr⟩:=xin (P:=P) hT hp;simp only[Option.some.injEq]at hv;subst hv;obtain⟨rfl,rfl⟩:=h.ret;refine⟨rfl,fun G Os w ρ he hH hM=> ?_⟩;obtain⟨u,w',hu,hd,hru⟩:=hr G (ρ a) (ρ b) a b w ((he a).rel hy1) ((he b).rel hy2);exact ym8 hH hM hu hd hru.toT
theorem yts(hT:TabOk P T)(op:UnOp)(t:TypeId)(a:Operand)(h:Res slot (opP ih T raw ev ⟨dst,.unOp op t a,type,pos,after,guard⟩) m x m'):x7 P T ev ⟨dst,.unOp op t a,type,pos,after,guard⟩ m x m':=by
 unfold opP at h;simp only at h;obtain⟨p,hp,h⟩:=h.toP;have hy:=yqi hp;obtain⟨v,hv,hr⟩:=yqj (P:=P) hp;simp only[Option.some.injEq]at hv;subst hv;obtain⟨rfl,rfl⟩:=h.ret;refine⟨rfl,fun G Os w ρ he hH hM=> ?_⟩;obtain⟨u,hu,hru⟩:=hr G (ρ a) w ((he a).rel hy);exact vm hH hM hu hru.toT
theorem yoh:∀{l:List V} {b:List UInt8},bytesOf l=some b→∃ns:List Int,l=ns.map (V.int .u8)∧b=ns.map fun n=>UInt8.ofNat n.toNat
 | [],b,h=>by simp only[bytesOf,Option.some.injEq]at h;subst h;exact⟨[],rfl,rfl⟩
 |v::r,b,h=>by
  unfold bytesOf at h;split at h
  ·rename_i h0;cases h0
  ·rename_i n r' h0
   cases h0;split at h
   ·rename_i s hs
    simp only[Option.some.injEq]at h;subst h;obtain⟨ns,rfl,rfl⟩:=yoh hs;exact⟨n::ns,rfl,rfl⟩
   ·cases h
  ·cases h
theorem xak(ns:List Int):flat (ns.map (V.int .u8))=ns.map (V.int .u8):=by
 induction ns with
 |nil=>rfl
 |cons n ns ih=>simp only[flat,List.map_cons,List.flatMap_cons]at ih⊢;rw[ih];rfl
theorem yyp{G:Gh}:∀{ns:List Int} {xs:List Value},LRel G (ns.map (V.int .u8)) xs→xs=ns.map (Value.int .u8):=by
 intro ns xs h;apply List.ext_getElem?;intro i;have hl:=h.1;rw[List.getElem?_map];cases hn:ns[i]? with
 |none=>
  have:ns.length≤i:=List.getElem?_eq_none_iff.1 hn;rw[List.getElem?_eq_none_iff.2 (by simp at hl;omega)];rfl
 |some n=>
  have hi:i<xs.length:=by have:=(List.getElem?_eq_some_iff.1 hn).1;simp at hl;omega
  have hx:=List.getElem?_eq_getElem hi;have h1:=h.2 i (.int .u8 n) xs[i] (by rw[List.getElem?_map,hn];rfl) hx;rw[hx];generalize xs[i]=y at h1⊢;cases h1;rfl
theorem ys5(ns:List Int):∀s:ByteArray,(ns.foldl (fun r n=>r.push (UInt8.ofNat n.toNat)) s).data.toList=s.data.toList++ns.map fun n=>UInt8.ofNat n.toNat:=by
 induction ns with
 |nil=>intro s;simp
 |cons n ns ih=>intro s;rw[List.foldl_cons,ih];simp[ByteArray.push]
theorem yue(hT:TabOk P T)(s d:TypeId)(a:Operand)(h:Res slot (opP ih T raw ev ⟨dst,.convert s d a,type,pos,after,guard⟩) m x m'):x7 P T ev ⟨dst,.convert s d a,type,pos,after,guard⟩ m x m':=by
 unfold opP at h;simp only at h;obtain⟨ti,hti,h⟩:=h.optP;unfold yne at h;split at h
 ·rename_i e hs hd
  split at h
  ·rename_i he
   obtain⟨hns,h⟩:=h.needP
   have hy:zm (ev a)=false:=by
    cases hv:ev a<;>first|rfl|(rw[hv]at h;unfold jv at h;exact h.fail.elim)
   obtain⟨l,h,hsrc⟩:=zdm (P:=P) h;obtain⟨b,hb,h⟩:=h.optP;obtain⟨rfl,rfl⟩:=h.ret;obtain⟨ns,rfl,rfl⟩:=yoh hb;refine⟨rfl,fun G Os w ρ hev hH hM=> ?_⟩;have hrel:=(hev a).rel hy;have hS:=hsrc G w (ρ a) hrel hH hM;obtain⟨xs,hx,hf⟩:=hS.first _ (Nat.le_refl _);rw[List.take_length,xak]at hx;have hxs:=yyp hx;have hf:=hf w rfl;have hlen:=hS.len w;subst hxs
   have key:(convert s d (ρ a)).run P w= .ok (.string (ns.foldl (fun r n=>r.push (UInt8.ofNat n.toNat)) ByteArray.empty)) w:=by
    generalize ρ a=y at hrel hf hlen;cases y with
    |slice ad n cap=>
     rw[run_convert_bytes_string w s d e ad n cap (hT.slice hs) (hT.intT he) (hT.string hd)];have hn:n=ns.length:=by simpa[Builtin.lenOf]using hlen
     cases ad with
     |none=>
      have:ns= []:=by
       simp[Builtin.firstCells,Sem.run_pure]at hf;simpa using hf
      subst this;simp[Conv.bytesToString,Sem.run_pure]
     |some ad=>
      refine run_bytesToString w ad n cap ns ?_;rw[hn];simpa[Builtin.firstCells]using hf
    |string s0=>
     exfalso;generalize ev a=v at hrel hns;cases hrel<;>first|(simp[zg7]at hns;done)|skip
    |_=>simp[Builtin.lenOf]at hlen
   exact vm hH hM key (Rel.toT (.str _ _ (by rw[ys5];simp)))
  ·exact h.fail.elim
 ·obtain⟨p,hp,h⟩:=h.toP
  have hy:=xfj hp;obtain⟨v,hv,hr⟩:=xfk (P:=P) hT hp ⟨ti,hti⟩;simp only[Option.some.injEq]at hv;subst hv;obtain⟨rfl,rfl⟩:=h.ret;refine⟨rfl,fun G Os w ρ he hH hM=> ?_⟩;obtain⟨u,w',hu,hd,hru⟩:=hr G (ρ a) w ((he a).rel hy);exact ym8 hH hM hu hd hru.toT
theorem yt6(hT:TabOk P T)(f:FuncId)(cap:Array Operand)(h:Res slot (opP ih T raw ev ⟨dst,.makeFunc (.func f) #[] cap,type,pos,after,guard⟩) m x m'):x7 P T ev ⟨dst,.makeFunc (.func f) #[] cap,type,pos,after,guard⟩ m x m':=by
 unfold opP at h;simp only at h;have hyl:=h.needP.1;obtain⟨rfl,rfl⟩:=h.needP.2.ret;refine⟨rfl,fun G Os w ρ he hH hM=> ?_⟩
 have hy:∀(l:List V),z9 l=false→∀v∈l,zm v=false:=by
  intro l
  induction l with
  |nil=>intro _ v hv;cases hv
  |cons a l ih=>
   intro h v hv;simp only[z9,Bool.or_eq_false_iff]at h;rcases List.mem_cons.1 hv with rfl|hv
   ·exact h.1
   ·exact ih h.2 v hv
 have hcap:=hy _ (by simpa using hyl);refine⟨.value (.func (.func f) #[] (cap.map ρ)),_,w,G,by simp[execOp,Instr.makeFunc],.inl rfl,.refl G w,hH,hM,?_⟩;refine Rel.toT (.fn f _ _ (by simp) fun i v y hv hy=> ?_);rw[List.getElem?_map]at hv;rw[Array.getElem?_map]at hy;rw[Array.getElem?_toList]at hv;cases hp:cap[i]? with
 |none=>rw[hp]at hv;cases hv
 |some p=>
  rw[hp]at hv hy;simp only[Option.map_some,Option.some.injEq]at hv hy;subst hv;subst hy;exact(he p).rel (hcap _ (List.mem_map.2 ⟨p,by simpa using Array.mem_of_getElem? hp,rfl⟩))
theorem yt4(hT:TabOk P T)(f:FuncId)(x1:Operand)(xs1:List Operand)(h:Res slot (opP ih T raw ev ⟨dst,.makeFunc (.func f) ⟨x1::xs1⟩ #[],type,pos,after,guard⟩) m x m'):x7 P T ev ⟨dst,.makeFunc (.func f) ⟨x1::xs1⟩ #[],type,pos,after,guard⟩ m x m':=by
 unfold opP at h;simp only at h;have hyl:=h.needP.1;obtain⟨rfl,rfl⟩:=h.needP.2.ret;refine⟨rfl,fun G Os w ρ he hH hM=> ?_⟩
 have hy:∀(l:List V),z9 l=false→∀v∈l,zm v=false:=by
  intro l
  induction l with
  |nil=>intro _ v hv;cases hv
  |cons a l ih=>
   intro h v hv;simp only[z9,Bool.or_eq_false_iff]at h;rcases List.mem_cons.1 hv with rfl|hv
   ·exact h.1
   ·exact ih h.2 v hv
 have hcap:∀v∈(x1::xs1).map ev,zm v=false:=hy _ (by simpa using hyl);generalize hc:(⟨x1::xs1⟩:Array Operand)=cap;have hcl:cap.toList=x1::xs1:=by rw[←hc]
 rw[←hcl]at hcap⊢;refine⟨.value (.func (.func f) (cap.map ρ) #[]),_,w,G,by simp[execOp,Instr.makeFunc],.inl rfl,.refl G w,hH,hM,?_⟩;refine Rel.toT (.mth f 0 _ _ (by simp) fun i v y hv hy=> ?_);rw[List.getElem?_map]at hv;rw[Array.getElem?_map]at hy;rw[Array.getElem?_toList]at hv;cases hp:cap[i]? with
 |none=>rw[hp]at hv;cases hv
 |some p=>
  rw[hp]at hv hy;simp only[Option.map_some,Option.some.injEq]at hv hy;subst hv;subst hy;exact(he p).rel (hcap _ (List.mem_map.2 ⟨p,by simpa using Array.mem_of_getElem? hp,rfl⟩))
theorem yt5(hT:TabOk P T)(t:TypeId)(h:Res slot (opP ih T raw ev ⟨dst,.makeMap t none,type,pos,after,guard⟩) m x m'):x7 P T ev ⟨dst,.makeMap t none,type,pos,after,guard⟩ m x m':=by
 unfold opP at h;simp only at h;obtain⟨id,m1,h,hS,hr⟩:=yvo (P:=P) (T:=T) (t:=t) h;obtain⟨rfl,rfl⟩:=h.ret;refine⟨hS,fun G Os w ρ he hH hM=> ?_⟩;exact(hr G w hH hM).op
theorem yt3(hT:TabOk P T)(t:TypeId)(l c:Operand)(h:Res slot (opP ih T raw ev ⟨dst,.makeSlice t l c,type,pos,after,guard⟩) m x m'):x7 P T ev ⟨dst,.makeSlice t l c,type,pos,after,guard⟩ m x m':=by
 unfold opP at h;simp only at h;split at h
 ·rename_i e ht
  obtain⟨p,hp,h⟩:=h.toP;obtain⟨n,hn,hp1⟩:=zjz hp;obtain⟨cc,hcc,hp2⟩:=zjz hp1;simp only[Option.some.injEq]at hp2;subst hp2;obtain⟨id,m1,h,hS,hr⟩:=yvn (P:=P) hT ht h;obtain⟨rfl,rfl⟩:=h.ret;refine⟨hS,fun G Os w ρ he hH hM=> ?_⟩;have h1:=he l;have h2:=he c;rw[hn]at h1;rw[hcc]at h2;have h1:Rel G (.int .i64 n) (ρ l):=h1;have h2:Rel G (.int .i64 cc) (ρ c):=h2;have e1:ρ l= .int .i64 n:=by cases hq:ρ l<;>rw[hq]at h1<;>cases h1;rfl
  have e2:ρ c= .int .i64 cc:=by cases hq:ρ c<;>rw[hq]at h2<;>cases h2;rfl
  have:=(hr G w hH hM).op (Os:=Os);simpa[execOp,e1,e2]using this
 ·exact h.fail.elim
theorem ytv(hT:TabOk P T)(t:TypeId)(a:Operand)(lo hi:Option Operand)(h:Res slot (opP ih T raw ev ⟨dst,.slice t a lo hi none,type,pos,after,guard⟩) m x m'):x7 P T ev ⟨dst,.slice t a lo hi none,type,pos,after,guard⟩ m x m':=by
 unfold opP at h;simp only at h;obtain⟨hy,hylo,hyhi⟩:=yre h;obtain⟨v,h,hr⟩:=yrf (P:=P) hT h;obtain⟨rfl,rfl⟩:=h.ret;refine⟨rfl,fun G Os w ρ he hH hM=> ?_⟩
 have opt:∀(q:Option Operand),(∀v,q.map ev=some v→zm v=false)→RelO G (q.map ev) (q.map ρ):=by
  intro q hq;cases q with
  |none=>exact True.intro
  |some q=>exact(he q).rel (hq _ rfl)
 obtain⟨z,hz,hrz⟩:=hr G w (ρ a) (lo.map ρ) (hi.map ρ) ((he a).rel hy) (opt lo hylo) (opt hi hyhi) hH hM;exact vm hH hM (by simpa using hz) hrz.toT
theorem ytu(hT:TabOk P T)(t:TypeId)(a:Operand)(lo:Option Operand)(hi mx:Operand)(h:Res slot (opP ih T raw ev ⟨dst,.slice t a lo (some hi) (some mx),type,pos,after,guard⟩) m x m'):x7 P T ev ⟨dst,.slice t a lo (some hi) (some mx),type,pos,after,guard⟩ m x m':=by
 unfold opP at h;simp only at h;obtain⟨hy,hylo,hyhi,hym⟩:=yrg h;obtain⟨v,h,hr⟩:=yrh (P:=P) hT h;obtain⟨rfl,rfl⟩:=h.ret;refine⟨rfl,fun G Os w ρ he hH hM=> ?_⟩
 have opt:∀(q:Option Operand),(∀v,q.map ev=some v→zm v=false)→RelO G (q.map ev) (q.map ρ):=by
  intro q hq;cases q with
  |none=>exact True.intro
  |some q=>exact(he q).rel (hq _ rfl)
 obtain⟨z,hz,hrz⟩:=hr G w (ρ a) (lo.map ρ) (ρ hi) (ρ mx) ((he a).rel hy) (opt lo hylo) ((he hi).rel hyhi) ((he mx).rel hym) hH hM;exact vm hH hM (by simpa using hz) hrz.toT
theorem yub(hT:TabOk P T)(s:TypeId)(a:Operand)(f:Nat)(h:Res slot (opP ih T raw ev ⟨dst,.fieldAddr s a f,type,pos,after,guard⟩) m x m'):x7 P T ev ⟨dst,.fieldAddr s a f,type,pos,after,guard⟩ m x m':=by
 unfold opP at h;simp only at h;obtain⟨p,hp,h⟩:=h.toP;have hy:=xau hp;obtain⟨v,hv,hr⟩:=xav (P:=P) hT hp;simp only[Option.some.injEq]at hv;subst hv;obtain⟨rfl,rfl⟩:=h.ret;refine⟨rfl,fun G Os w ρ he hH hM=> ?_⟩;obtain⟨u,hu,hru⟩:=hr G w (ρ a) ((he a).rel hy);exact vm hH hM hu hru.toT
theorem yt9(hT:TabOk P T)(t:TypeId)(a i:Operand)(h:Res slot (opP ih T raw ev ⟨dst,.indexAddr t a i,type,pos,after,guard⟩) m x m'):x7 P T ev ⟨dst,.indexAddr t a i,type,pos,after,guard⟩ m x m':=by
 unfold opP at h;simp only at h;obtain⟨p,hp,h⟩:=h.toP;obtain⟨kd,n,hi,hp⟩:=zd7 hp;simp only[Option.some.injEq]at hp;subst hp;have hy:=yyt h;obtain⟨v,h,hr⟩:=yyu (P:=P) hT h;obtain⟨rfl,rfl⟩:=h.ret;refine⟨rfl,fun G Os w ρ he hH hM=> ?_⟩;have h1:=he i;rw[hi]at h1;have h1:Rel G (.int kd n) (ρ i):=h1;have e1:ρ i= .int kd n:=by cases hq:ρ i<;>rw[hq]at h1<;>cases h1;rfl
 obtain⟨u,hu,hru⟩:=hr G w (ρ a) kd ((he a).rel hy) hH hM;exact vm hH hM (by rw[e1];exact hu) hru.toT
theorem yua(hT:TabOk P T)(t:TypeId)(a i:Operand)(h:Res slot (opP ih T raw ev ⟨dst,.index t a i,type,pos,after,guard⟩) m x m'):x7 P T ev ⟨dst,.index t a i,type,pos,after,guard⟩ m x m':=by
 unfold opP at h;simp only at h;obtain⟨p,hp,h⟩:=h.toP;obtain⟨kd,n,hi,hp⟩:=zd7 hp
 have idx:∀(G:Gh) (Os:List OG) (ρ:Operand→Value),OpEnv G Os ev ρ→ρ i= .int kd n:=by
  intro G Os ρ he;have h1:=he i;rw[hi]at h1;have h1:Rel G (.int kd n) (ρ i):=h1;cases hq:ρ i<;>rw[hq]at h1<;>cases h1;rfl
 split at hp
 ·rename_i cs len e hv ht
  obtain⟨hb,hp⟩:=xf hp;obtain⟨h0,h1⟩:=of_decide_eq_true hb;have hu:=hT.array ht;obtain⟨te,hte⟩:=j8 hT ht (by simp) (u:=e) (by simp[TD.subs])
  have fin:∀(u:V),(match T.isAgg e with|true=>some (V.agg ((cs.drop (n.toNat*T.size e)).take (T.size e)))|false=>cs[n.toNat*T.size e]?)=some u→p= .ret u→
    m'.S=m.S∧∀(G:Gh) (Os:List OG) (w:World) (ρ:Operand→Value),OpEnv G Os ev ρ→HeapRel G T w m.H m.Fz→MRel G T w→OpDoes P T m' x G Os w (execOp ρ ⟨dst,.index t a i,type,pos,after,guard⟩):=by
   intro u hu' hp;subst hp;obtain⟨rfl,rfl⟩:=h.ret;refine⟨rfl,fun G Os w ρ he hH hM=> ?_⟩;have ha:=he a;rw[hv]at ha;obtain⟨arr,harr,hA⟩:=(show Rel G (.agg cs) (ρ a)from ha).agg';obtain⟨z,hz,hrz⟩:=yk0 hT hA ⟨te,hte⟩ hu' w;refine vm hH hM (y:=z) ?_ hrz.toT;simp[Instr.index,asIntOf,idx G Os ρ he,harr,run_underlying hu,h0,h1,hT.size hte,hz]
  split at hp
  ·rename_i hA
   obtain⟨_,hp⟩:=xf hp;simp only[Option.some.injEq]at hp;exact fin _ (by rw[hA]) hp.symm
  ·rename_i hA
   obtain⟨hs,hp⟩:=xf hp;obtain⟨u,hu',hp⟩:=jb hp;simp only[Option.some.injEq]at hp;refine fin u (by rw[hA];simp only;rw[Nat.eq_of_beq_eq_true hs,Nat.mul_one];exact hu') hp.symm
 ·rename_i s hv ht
  obtain⟨hb,hp⟩:=xf hp;have h0:=of_decide_eq_true hb;split at hp
  ·rename_i c hcv
   simp only[Option.some.injEq]at hp;subst hp;obtain⟨rfl,rfl⟩:=h.ret;refine⟨rfl,fun G Os w ρ he hH hM=> ?_⟩;have ha:=he a;rw[hv]at ha;have ha:Rel G (.str s) (ρ a):=ha
   obtain⟨bs,e1,hbs⟩:∃bs:ByteArray,ρ a= .string bs∧bs.data.toList=s:=by
    cases hq:ρ a<;>rw[hq]at ha<;>cases ha;exact⟨_,rfl,by assumption⟩
   refine vm hH hM (y:= .int .u8 c.toNat) ?_ (Rel.toT (.int _ _))
   have hcv':bs[n.toNat]? =some c:=by
    rw[←hbs]at hcv;rw[Array.getElem?_toList]at hcv;have hlt:=(Array.getElem?_eq_some_iff.1 hcv).1;have hlt':n.toNat<bs.size:=hlt;rw[getElem?_pos bs n.toNat hlt'];have:=(Array.getElem?_eq_some_iff.1 hcv).2;rw[←this];rfl
   simp[Instr.index,asIntOf,idx G Os ρ he,e1,run_underlying (hT.string ht),h0,hcv']
  ·cases hp
 ·cases hp
theorem yt7(hT:TabOk P T)(t:TypeId)(mo ko:Operand)(ok:Bool)(h:Res slot (opP ih T raw ev ⟨dst,.lookup t mo ko ok,type,pos,after,guard⟩) m x m'):x7 P T ev ⟨dst,.lookup t mo ko ok,type,pos,after,guard⟩ m x m':=by
 unfold opP at h;simp only at h;split at h
 ·rename_i kt e ht
  have hk:=h.needP.1
  have hy2:zm (ev ko)=false:=by
   cases hq:ev ko<;>first|rfl|(rw[hq]at hk;simp[keyOk]at hk)
  have hy1:zm (ev mo)=false:=by
   have:=h.needP.2;cases hq:ev mo<;>first|rfl|(rw[hq]at this;exact this.fail.elim)
  obtain⟨v,h,hr⟩:=yw5 (P:=P) (k:= .ret) hT ht h;obtain⟨rfl,rfl⟩:=h.ret;refine⟨rfl,fun G Os w ρ he hH hM=> ?_⟩;obtain⟨z,hz,hrz⟩:=hr G w (ρ mo) (ρ ko) ((he mo).rel hy1) ((he ko).rel hy2) hH hM;exact vm hH hM hz hrz.toT
 ·exact h.fail.elim
theorem yt2(hT:TabOk P T)(t:TypeId)(mo ko vo:Operand)(h:Res slot (opP ih T raw ev ⟨dst,.mapUpdate t mo ko vo,type,pos,after,guard⟩) m x m'):x7 P T ev ⟨dst,.mapUpdate t mo ko vo,type,pos,after,guard⟩ m x m':=by
 unfold opP at h;simp only at h;split at h
 ·rename_i id kt e hmv ht
  obtain⟨yv,m0,h,hS0,hk,hf⟩:=zkk _ _ _ _ _ h;have hcond:=h.needP.1;simp only[Bool.and_eq_true,Bool.not_eq_true']at hcond
  have hy2:zm (ev ko)=false:=by
   have:=hcond.2.2;cases hq:ev ko<;>first|rfl|(rw[hq]at this;simp[keyOk]at this)
  have hy3:zm (ev vo)=false:=by rw[←hk.yld];exact hcond.1
  obtain⟨m1,h,hS,hr⟩:=yvj (P:=P) (k:=fun v=> .ret v) hT ht trivial h;obtain⟨rfl,rfl⟩:=h.ret;refine⟨hS.trans hS0,fun G Os w ρ he hH hM=> ?_⟩;obtain⟨G1,f1,hp,r1⟩:=hf G w hH hM;have hmo:=he mo;rw[hmv]at hmo;obtain⟨w',e1,e2,e3,e4⟩:=hr G1 w (ρ mo) (ρ ko) (ρ vo) ((show Rel G (.map id) (ρ mo)from hmo).mono f1.step.le) (((he ko).rel hy2).mono f1.step.le) (r1 _ ((he vo).rel hy3)) hp f1.heap f1.mem;exact⟨.skip,Go.undef,w',G1,by simp[execOp,e1],.inr ⟨rfl,rfl⟩,f1.step.trans e2,e3,e4,.undef _⟩
 ·exact h.fail.elim
theorem ytw(hT:TabOk P T)(t:TypeId)(a:Operand)(h:Res slot (opP ih T raw ev ⟨dst,.range t a,type,pos,after,guard⟩) m x m'):x7 P T ev ⟨dst,.range t a,type,pos,after,guard⟩ m x m':=by
 unfold opP at h;simp only at h;split at h
 ·rename_i s ht hv
  obtain⟨id,m1,h,hS,hr⟩:=ysx (P:=P) hT ht h;obtain⟨rfl,rfl⟩:=h.ret;refine⟨hS,fun G Os w ρ he hH hM=> ?_⟩;have ha:=he a;rw[hv]at ha;exact(hr G w (ρ a) ha hH hM).op
 ·rename_i kt e id ht hv
  obtain⟨id',m1,h,hS,hr⟩:=ysy (P:=P) hT ht h;obtain⟨rfl,rfl⟩:=h.ret;refine⟨hS,fun G Os w ρ he hH hM=> ?_⟩;have ha:=he a;rw[hv]at ha;exact(hr G w (ρ a) ha hH hM).op
 ·exact h.fail.elim
theorem yt0(hT:TabOk P T)(a:Operand)(h:Res slot (opP ih T raw ev ⟨dst,.next a true,type,pos,after,guard⟩) m x m'):x7 P T ev ⟨dst,.next a true,type,pos,after,guard⟩ m x m':=by
 unfold opP at h;simp only at h;split at h
 ·rename_i id hv
  obtain⟨v,m1,h,hS,hr⟩:=yuv (P:=P) (ty:=type) h;obtain⟨rfl,rfl⟩:=h.ret;refine⟨hS,fun G Os w ρ he hH hM=> ?_⟩;have ha:=he a;rw[hv]at ha;exact(hr G w (ρ a) ha hH hM).op
 ·exact h.fail.elim
theorem yud(a:Operand)(h:Res slot (opP ih T raw ev ⟨dst,.entry a,type,pos,after,guard⟩) m x m'):x7 P T ev ⟨dst,.entry a,type,pos,after,guard⟩ m x m':=by
 unfold opP at h;simp only at h;split at h
 ·rename_i id hv
  obtain⟨v,h,hr⟩:=xbj (P:=P) (T:=T) h;obtain⟨rfl,rfl⟩:=h.ret;refine⟨rfl,fun G Os w ρ he hH hM=> ?_⟩;have ha:=he a;rw[hv]at ha;obtain⟨z,hz,hrel⟩:=hr G w (ρ a) ha hH hM;exact(Does.still hH hM hz hrel).op
 ·exact h.fail.elim
theorem ytz(hT:TabOk P T)(a:Operand)(h:Res slot (opP ih T raw ev ⟨dst,.next a false,type,pos,after,guard⟩) m x m'):x7 P T ev ⟨dst,.next a false,type,pos,after,guard⟩ m x m':=by
 unfold opP at h;simp only at h;split at h
 ·rename_i id hv
  obtain⟨v,m1,h,hS,hr⟩:=yuw (P:=P) (ty:=type) h;obtain⟨rfl,rfl⟩:=h.ret;refine⟨hS,fun G Os w ρ he hH hM=> ?_⟩;have ha:=he a;rw[hv]at ha;exact(hr G w (ρ a) ha hH hM).op
 ·exact h.fail.elim
theorem yuc(hT:TabOk P T)(a:Operand)(i:Nat)(h:Res slot (opP ih T raw ev ⟨dst,.extract a i,type,pos,after,guard⟩) m x m'):x7 P T ev ⟨dst,.extract a i,type,pos,after,guard⟩ m x m':=by
 unfold opP at h;simp only at h;obtain⟨p,hp,h⟩:=h.toP;obtain⟨vs,hv,hp⟩:=zor hp;obtain⟨u,hu,hp⟩:=jb hp;simp only[Option.some.injEq]at hp;subst hp;obtain⟨rfl,rfl⟩:=h.ret;refine⟨rfl,fun G Os w ρ he hH hM=> ?_⟩;have ha:=he a;rw[hv]at ha;obtain⟨arr,harr,hA⟩:=(show Rel G (.tup vs) (ρ a)from ha).tup';obtain⟨z,hz,hrz⟩:=hA.get hu;have hz':arr[i]? =some z:=by simpa using hz
 exact vm hH hM (y:=z) (by rw[harr];simp[Instr.extract,hz']) hrz.toT
theorem yuf(hT:TabOk P T)(c:Call)(hb:∃b,c.callee= .builtin b)(h:Res slot (opP ih T raw ev ⟨dst,.call c,type,pos,after,guard⟩) m x m'):x7 P T ev ⟨dst,.call c,type,pos,after,guard⟩ m x m':=by
 unfold opP at h;simp only at h;obtain⟨b,hb⟩:=hb;rw[hb]at h;simp only at h;obtain⟨u,m1,h,hS,hr⟩:=xib (P:=P) hT h;obtain⟨rfl,rfl⟩:=h.ret;refine⟨hS,fun G Os w ρ he hH hM=> ?_⟩
 obtain⟨y,w',G',e1,e2,e3,e4,e5⟩:=hr G Os w (c.args.toList.map ρ) type (c.args.map fun| .const _=>true|_=>false) ⟨by simp,fun i v y hv hy=>by
  rw[List.getElem?_map]at hv hy;cases hp:c.args.toList[i]? with
  |none=>rw[hp]at hv;cases hv
  |some p=>
   rw[hp]at hv hy;simp only[Option.map_some,Option.some.injEq]at hv hy;subst hv;subst hy;exact he p⟩ hH hM
 refine⟨_,y,w',G',?_,.inl rfl,e2,e3,e4,e5⟩;have e1':=e1;rw[show(c.args.toList.map ρ).toArray=c.args.map ρ by(apply Array.ext';simp),show c.argTypes.toList.toArray=c.argTypes by simp]at e1';have e9:execOp ρ ⟨dst,.call c,type,pos,after,guard⟩=(do let d←resolve ρ c type;invoke d.target d.args):=rfl;have e8:resolve ρ c type=(pure {target:= .builtin b c.argTypes type (c.args.map fun| .const _=>true|_=>false),args:=c.args.map ρ}:Sem Deferred):=by unfold resolve;rw[hb];rfl
 rw[e9,e8];exact e1'
theorem yup(hT:TabOk P T){o:Oper}(hc:∀c,o.op= .call c→∃b,c.callee= .builtin b)(h:Res slot (opP ih T raw ev o) m x m'):x7 P T ev o m x m':=by
 obtain⟨dst,op,type,pos,after,guard⟩:=o;simp only at hc;have h0:=h;unfold opP at h;simp only at h;split at h
 ·exact yt1 hT _ h0
 ·exact yuk hT _ h0
 ·exact ytx hT _ _ _ h0
 ·exact yul hT _ h0
 ·exact yui hT _ _ h0
 ·exact yuh hT _ _ h0
 ·exact yug hT _ _ _ h0
 ·exact yt8 hT _ _ h0
 ·exact ytt hT _ _ _ h0
 ·exact yty hT _ h0
 ·exact yuj hT _ _ _ _ _ h0
 ·exact yts hT _ _ _ h0
 ·exact yue hT _ _ _ h0
 ·exact yt6 hT _ _ h0
 ·exact yt4 hT _ _ _ h0
 ·exact yt5 hT _ h0
 ·exact yt3 hT _ _ _ h0
 ·exact ytv hT _ _ _ _ h0
 ·exact ytu hT _ _ _ _ _ h0
 ·exact yub hT _ _ _ h0
 ·exact yt9 hT _ _ _ h0
 ·exact yua hT _ _ _ h0
 ·exact yt7 hT _ _ _ _ h0
 ·exact yt2 hT _ _ _ _ h0
 ·exact ytw hT _ _ h0
 ·exact yt0 hT _ h0
 ·exact ytz hT _ h0
 ·exact yud _ h0
 ·exact yuc hT _ _ h0
 ·exact yuf hT _ (hc _ rfl) h0
 ·exact h.fail.elim
end
end Go.Den
