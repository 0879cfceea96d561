import Derived.Test.YtjiidembdmfikaaGreatDoorZO
import Derived.Lib.Bytealg
import Derived.KernelRfl
set_option linter.all false
set_option maxHeartbeats 8000000
set_option maxRecDepth 100000
namespace Go.Den
open Go
inductive Tr (α:Type) where
 |leaf
 |node (l:Tr α) (k:Nat) (v:α) (r:Tr α)
def Tr.find{α:Type}:Tr α→Nat→Option α
 | .leaf,_=>none
 | .node l k v r,x=>match Nat.beq x k with
  |true=>some v
  |false=>match Nat.ble x k with
   |true=>l.find x
   |false=>r.find x
def Tr.All{α:Type}(p:Nat→α→Prop):Tr α→Prop
 | .leaf=>True
 | .node l k v r=>l.All p∧p k v∧r.All p
theorem Tr.All.get{α:Type}{p:Nat→α→Prop}:∀{t:Tr α},t.All p→∀{x:Nat} {v:α},t.find x=some v→p x v:=by
 intro t
 induction t with
 |leaf=>intro _ x v h;cases h
 |node l k u r ihl ihr=>
  rintro⟨h1,h2,h3⟩ x v h;simp only[Tr.find]at h;cases hb:Nat.beq x k with
  |true=>
   rw[hb]at h;simp only[Option.some.injEq]at h;rw[Nat.eq_of_beq_eq_true hb,←h];exact h2
  |false=>
   rw[hb]at h;cases hc:Nat.ble x k with
   |true=>rw[hc]at h;exact ihl h1 h
   |false=>rw[hc]at h;exact ihr h3 h
def tiB(P:Program)(T:Tab)(t:TypeId)(i:TI):Bool:=
 (i.td.subs.all fun u=>(T.ti u).isSome)&&(!i.eqok||(!P.stoodInHeld t&&(!P.eqGuardType P.depth t&&(match P.underlying t with|some (.struct fs)=>fs.toList.all fun f=> !(f.name== "_")|_=>true))))
theorem zt{P:Program}{T:Tab}{t:TypeId}{i:TI}(inf u:TypeInfo)(h1:P.info? t=some inf)(h2:P.underlying t=some u.desc)
  (h3:(inf.zero.map fun z=>(⟨qz u.desc,inf.size,inf.bytes,q7 z,i.eqok⟩:TI))=some i)(h4:tiB P T t i=true):TiOk P T t i:=by
 cases hz:inf.zero with
 |none=>rw[hz]at h3;cases h3
 |some z=>
  rw[hz]at h3;simp only[Option.map_some,Option.some.injEq]at h3;replace h3:=h3.symm;simp only[tiB,Bool.and_eq_true,List.all_eq_true,Bool.or_eq_true]at h4;have e1:=congrArg TI.td h3;have e2:=congrArg TI.size h3;have e3:=congrArg TI.bytes h3;have e4:=congrArg TI.zero h3;refine⟨fun u hu=>Option.isSome_iff_exists.1 (h4.1 u hu),⟨inf,u.desc,z,h1,h2,e1,e2.symm,e3.symm,hz,e4⟩,fun he=> ?_⟩;rcases h4.2 with h|⟨h5,h6,h7⟩
  ·rw[he]at h;cases h
  ·refine⟨by simpa using h5,by simpa using h6,fun fs hfs f hf hn=> ?_⟩
   rw[hfs]at h7;simp only[List.all_eq_true]at h7;have:=h7 f (by simpa using hf);rw[hn]at this;simp at this
theorem zq{P:Program}{T:Tab}{f:FuncId}{fn:Func}(h:(match fn.body with|some c=> !(fn.name== "runtime.NumGoroutine")&&codeOk T f c|none=> !(T.byref f)&&(T.prim f).isSome)=true):
  (∀c,fn.body=some c→codeOk T f c=true)∧(T.byref f=true∨T.prim f=none→FnOk P T f fn):=by
 cases hb:fn.body with
 |none=>
  rw[hb]at h;simp only[Bool.and_eq_true]at h;refine⟨fun c hc=>(by cases hc),fun h'=> ?_⟩;rcases h' with h'|h'
  ·rw[h']at h;simp at h
  ·rw[h']at h;simp at h
 |some c=>
  rw[hb]at h;simp only[Bool.and_eq_true]at h;exact⟨fun c' hc=>(by cases hc;exact h.2),fun _=>⟨by simpa using h.1,c,hb,h.2⟩⟩
section comb
variable {α β:Type}
@[congr]theorem need_congr{b b':Bool}(k:Option α)(h:b=b'):need b k=need b' k:=by rw[h]
@[congr]theorem br_congr{b b':Bool}(x y:α)(h:b=b'):br b x y=br b' x y:=by rw[h]
@[congr]theorem optK_congr{o o':Option β}(k:β→Option α)(h:o=o'):zn o k=zn o' k:=by rw[h]
@[congr]theorem optP_congr{o o':Option β}(k:β→Prog)(h:o=o'):optP o k=optP o' k:=by rw[h]
@[congr]theorem needP_congr{b b':Bool}(k:Prog)(h:b=b'):needP b k=needP b' k:=by rw[h]
@[go_sem↓]theorem need_t(k:Option α):need true k=k:=rfl
@[go_sem↓]theorem br_t(x y:α):br true x y=x:=rfl
@[go_sem↓]theorem br_f(x y:α):br false x y=y:=rfl
@[go_sem↓]theorem optK_s(v:β)(k:β→Option α):zn (some v) k=k v:=rfl
@[go_sem↓]theorem optP_s(v:β)(k:β→Prog):optP (some v) k=k v:=rfl
@[go_sem↓]theorem needP_t(k:Prog):needP true k=k:=rfl
@[go_sem]theorem yw7(t:Nat)(v:α)(r:List (Nat×α)):lookup t ((t,v)::r)=some v:=by simp[lookup]
@[go_sem]theorem yw6(t u:Nat)(v:α)(r:List (Nat×α))(h:(u==t)=false):lookup t ((u,v)::r)=lookup t r:=by
 have:Nat.beq u t=false:=by
  cases hb:Nat.beq u t with
  |false=>rfl
  |true=>have:=Nat.eq_of_beq_eq_true hb;subst this;simp at h
 simp[lookup,this]
end comb
@[go_sem]theorem eval_tmp(fn nt fp:Nat)(env:Den.Env)(H:zj)(Fz:Nat)(S:xb)(t:Nat):St.eval ⟨fn,nt,fp,env,H,Fz,S⟩ (.tmp t)=xx env t:=by
 simp only[St.eval,xx]
@[go_sem]theorem lookV_hit(t:Nat)(v:V)(r:Den.Env):xx ((t,v)::r) t=v:=by simp[xx,yw7]
@[go_sem]theorem lookV_miss(t u:Nat)(v:V)(r:Den.Env)(h:(u==t)=false):xx ((u,v)::r) t=xx r t:=by simp only[xx];rw[yw6 _ _ _ _ h]
@[go_sem]theorem eval_const(st:St)(v:Value):st.eval (.const v)=q7 v:=rfl
@[go_sem]theorem eval_global(st:St)(g:Nat):st.eval (.global g)= .glob g 0:=rfl
@[go_sem]theorem eval_func(st:St)(f:Nat):st.eval (.func f)= .fn f []:=rfl
attribute [go_sem] za3
@[go_sem]theorem absV_int(k:IntKind)(n:Int):q7 (.int k n)= .int k n:=rfl
@[go_sem]theorem absV_bool(b:Bool):q7 (.bool b)= .bool b:=rfl
@[go_sem]theorem absV_string(s:ByteArray):q7 (.string s)= .str s.data.toList:=rfl
@[go_sem]theorem absV_slice:q7 (.slice none 0 0)= .sl false 0 []:=rfl
@[go_sem]theorem absV_map:q7 (.map none)= .nilm:=rfl
@[go_sem]theorem absV_nilFunc:q7 .nilFunc= .nilf:=rfl
@[go_sem↓]theorem ys4(st:St)(v:V):st.put none v=st:=by cases st;rfl
@[go_sem↓]theorem put_s(fn nt fp:Nat)(env:Den.Env)(H:zj)(Fz:Nat)(S:xb)(t:Nat)(v:V):St.put ⟨fn,nt,fp,env,H,Fz,S⟩ (some t) v=⟨fn,nt,fp,(t,v)::env,H,Fz,S⟩:=rfl
structure SO where
 dst:Option Nat
 op:Op
 g:Option (Option Nat×Bool)
def yh(ih:Ih)(T:Tab)(raw:Bool)(ev:Operand→V)(op:Op):Prog:=opP ih T raw ev ⟨none,op,0, "",#[],none⟩
def zh0(ops:Array Oper)(g:Nat):Option Nat:=match ops[g]? with|some o=>o.dst|none=>none
def znu(ops:Array Oper)(o:Oper):SO:=⟨o.dst,o.op,match o.guard with|some (g,w)=>some (zh0 ops g,w)|none=>none⟩
def comp(ops:Array Oper):List SO:=ops.toList.map (znu ops)
section reg
variable {α:Type} (ih:Ih) (T:Tab)
def ud(slot:Option Nat)(op:Op)(st:St)(k:V→St→FP→Option α):Option α:=
 (yh ih T (T.raw st.fn) st.eval op).go slot st.H st.Fz st.S .none fun v H Fz S fp=>k v ⟨st.fn,st.nt,st.fp,st.env,H,Fz,S⟩ fp
def zdo(st:St)(d:Option Nat):V:=match d with|some t=>xx st.env t|none=> .undef
def qv(slot:Nat→Option Nat):Nat→List SO→St→List FP→(St→List FP→Option α)→Option α
 |_,[],st,fps,k=>k st fps
 |j,⟨d,op,none⟩::rest,st,fps,k=>need (ve st d) (ud ih T (slot j) op st fun v st fp=>qv slot (j+1) rest (st.put d v) (fp::fps) k)
 |j,⟨d,op,some (t,w)⟩::rest,st,fps,k=>need (ve st d)
   (match zdo st t with
   | .bool b=>br (b==w) (ud ih T (slot j) op (st.put t (.bool b)) fun v st fp=>qv slot (j+1) rest (st.put d v) (fp::fps) k) (qv slot (j+1) rest ((st.put t (.bool b)).put d (.tup [])) (.none::fps) k)
   | .tup _=>qv slot (j+1) rest (st.put d (.tup [])) (.none::fps) k
   |_=>none)
theorem yk7(raw:Bool)(ev:Operand→V)(o:Oper):opP ih T raw ev o=yh ih T raw ev o.op:=rfl
theorem yo3(ops:Array Oper)(st:St)(g:Nat):j7 ops st.eval g=zdo st (zh0 ops g):=by
 unfold j7 zdo zh0;cases ops[g]? with
 |none=>rfl
 |some o=>cases o.dst<;>rfl
theorem yk5(ops:Array Oper)(slot:Nat→Option Nat):∀(os:List Oper) (j:Nat) (st:St) (fps:List FP) (k:St→List FP→Option α),opsK ih T ops slot j os st fps k=qv ih T slot j (os.map (znu ops)) st fps k:=by
 intro os
 induction os with
 |nil=>intro j st fps k;rfl
 |cons o os ihos=>
  intro j st fps k;obtain⟨dst,op,type,pos,after,guard⟩:=o;unfold opsK;simp only[List.map_cons,znu];cases guard with
  |none=>
   simp only[qv];cases ve st dst with
   |false=>rfl
   |true=>
    simp only[need,opK,ud,yk7];congr 1;funext v H Fz S fp;exact ihos _ _ _ _
  |some g=>
   obtain⟨g,w⟩:=g;simp only[qv];cases ve st dst with
   |false=>rfl
   |true=>
    simp only[need,opK,ud,yk7];rw[yo3];unfold zh0;cases hg:ops[g]? with
    |none=>simp only[zdo]
    |some og=>
     simp only;cases zdo st og.dst with
     |bool b=>
      simp only;cases b<;>cases w
      ·simp only[br,beq_self_eq_true]
       congr 1;funext v H Fz S fp;exact ihos _ _ _ _
      ·exact ihos _ _ _ _
      ·exact ihos _ _ _ _
      ·simp only[br,beq_self_eq_true]
       congr 1;funext v H Fz S fp;exact ihos _ _ _ _
     |tup vs=>exact ihos _ _ _ _
     |_=>rfl
def zbd(ops:List SO)(ps:Option (List (Nat×Nat)))(st:St)(k:St→Option α):Option α:=
 match ps with
 |none=>qv ih T (fun _=>none) 0 ops st [] fun st _=>k st
 |some ps=>qv ih T (fun j=>some (st.H.length+j)) 0 ops (st.withH (st.H++List.replicate ops.length .free)) [] fun st fps=>
   need (zb1 fps.reverse ps) (k st)
theorem zpu(ops:Array Oper)(ps:Option (List (Nat×Nat)))(st:St)(k:St→Option α):regionK ih T ops ps st k=zbd ih T (comp ops) ps st k:=by
 unfold regionK zbd comp;cases ps with
 |none=>simp only[yk5]
 |some ps=>simp only[yk5,List.length_map,Array.length_toList]
@[congr]theorem opsS_congr(slot:Nat→Option Nat)(j:Nat)(ops:List SO){st st':St}(fps:List FP)(k:St→List FP→Option α)(h:st=st'):qv ih T slot j ops st fps k=qv ih T slot j ops st' fps k:=by rw[h]
@[congr]theorem goS_congr(slot:Option Nat)(op:Op){st st':St}(k:V→St→FP→Option α)(h:st=st'):ud ih T slot op st k=ud ih T slot op st' k:=by rw[h]
@[go_sem↓]theorem regS_none(ops:List SO)(st:St)(k:St→Option α):zbd ih T ops none st k=qv ih T (fun _=>none) 0 ops st [] fun st _=>k st:=rfl
@[go_sem↓]theorem regS_some(ops:List SO)(ps:List (Nat×Nat))(fn nt fp:Nat)(env:Den.Env)(H:zj)(Fz:Nat)(S:xb)(k:St→Option α):zbd ih T ops (some ps) ⟨fn,nt,fp,env,H,Fz,S⟩ k=
  qv ih T (fun j=>some (H.length+j)) 0 ops ⟨fn,nt,fp,env,H++List.replicate ops.length .free,Fz,S⟩ [] fun st fps=>need (zb1 fps.reverse ps) (k st):=rfl
@[go_sem↓]theorem opsS_nil(slot:Nat→Option Nat)(j:Nat)(st:St)(fps:List FP)(k:St→List FP→Option α):qv ih T slot j [] st fps k=k st fps:=rfl
@[go_sem↓]theorem opsS_plain(slot:Nat→Option Nat)(j:Nat)(d:Nat)(op:Op)(rest:List SO)(fn nt fp:Nat)(env:Den.Env)(H:zj)(Fz:Nat)(S:xb)(fps:List FP)(k:St→List FP→Option α):
  qv ih T slot j (⟨some d,op,none⟩::rest) ⟨fn,nt,fp,env,H,Fz,S⟩ fps k=need (decide (d<nt)) (ud ih T (slot j) op ⟨fn,nt,fp,env,H,Fz,S⟩ fun v st f=>qv ih T slot (j+1) rest (st.put (some d) v) (f::fps) k):=by
 rw[show decide (d<nt)=ve ⟨fn,nt,fp,env,H,Fz,S⟩ (some d) by simp only[ve];exact(Bool.eq_iff_iff.2 (by simp[Nat.blt_eq]))];rfl
@[go_sem↓]theorem opsS_plain0(slot:Nat→Option Nat)(j:Nat)(op:Op)(rest:List SO)(st:St)(fps:List FP)(k:St→List FP→Option α):
  qv ih T slot j (⟨none,op,none⟩::rest) st fps k=ud ih T (slot j) op st fun v st f=>qv ih T slot (j+1) rest st (f::fps) k:=by
 simp only[qv,ve,need,ys4]
def zb6(v:V)(w:Bool)(x:Option α)(y:V→Option α):Option α:=
 match v with
 | .bool b=>br (b==w) x (y (.bool b))
 | .tup vs=>y (.tup vs)
 |_=>none
@[congr]theorem grdS_congr{v v':V}(w:Bool)(x:Option α)(y:V→Option α)(h:v=v'):zb6 v w x y=zb6 v' w x y:=by rw[h]
@[go_sem↓]theorem grdS_bool(b w:Bool)(x:Option α)(y:V→Option α):zb6 (.bool b) w x y=br (b==w) x (y (.bool b)):=rfl
@[go_sem↓]theorem grdS_tup(vs:List V)(w:Bool)(x:Option α)(y:V→Option α):zb6 (.tup vs) w x y=y (.tup vs):=rfl
def ze6(st:St)(t:Nat):V→St
 | .bool b=>st.put (some t) (.bool b)
 |_=>st
@[go_sem↓]theorem grdPut_bool(st:St)(t:Nat)(b:Bool):ze6 st t (.bool b)=st.put (some t) (.bool b):=rfl
@[go_sem↓]theorem grdPut_tup(st:St)(t:Nat)(vs:List V):ze6 st t (.tup vs)=st:=rfl
theorem ytr(slot:Nat→Option Nat)(j:Nat)(d:Option Nat)(t:Nat)(w:Bool)(op:Op)(rest:List SO)(st:St)(fps:List FP)(k:St→List FP→Option α):
  qv ih T slot j (⟨d,op,some (some t,w)⟩::rest) st fps k=need (ve st d) (zb6 (xx st.env t) w (ud ih T (slot j) op (st.put (some t) (.bool w)) fun v st f=>qv ih T slot (j+1) rest (st.put d v) (f::fps) k)
   fun v=>qv ih T slot (j+1) rest ((ze6 st t v).put d (.tup [])) (.none::fps) k):=by
 simp only[qv,zdo];congr 1;unfold zb6;split
 ·rename_i b hb
  simp only[ze6];cases b<;>cases w<;>rfl
 ·rfl
 ·rename_i h1 h2
  cases hv:xx st.env t with
  |bool b=>exact(h1 b hv).elim
  |tup vs=>exact(h2 vs hv).elim
  |_=>rfl
@[go_sem↓]theorem opsS_g(slot:Nat→Option Nat)(j d t:Nat)(w:Bool)(op:Op)(rest:List SO)(fn nt fp:Nat)(env:Den.Env)(H:zj)(Fz:Nat)(S:xb)(fps:List FP)(k:St→List FP→Option α):
  qv ih T slot j (⟨some d,op,some (some t,w)⟩::rest) ⟨fn,nt,fp,env,H,Fz,S⟩ fps k=need (decide (d<nt)) (zb6 (xx env t) w (ud ih T (slot j) op ⟨fn,nt,fp,(t,.bool w)::env,H,Fz,S⟩ fun v st f=>qv ih T slot (j+1) rest (st.put (some d) v) (f::fps) k)
   fun v=>qv ih T slot (j+1) rest ((ze6 ⟨fn,nt,fp,env,H,Fz,S⟩ t v).put (some d) (.tup [])) (.none::fps) k):=by
 rw[ytr,show decide (d<nt)=ve ⟨fn,nt,fp,env,H,Fz,S⟩ (some d) by simp only[ve];exact(Bool.eq_iff_iff.2 (by simp[Nat.blt_eq]))];rfl
end reg
section go
variable {α:Type} (slot:Option Nat) (H:zj) (Fz:Nat) (S:xb) (fp:FP) (k:V→zj→Nat→xb→FP→Option α)
@[congr]theorem go_congr{p p':Prog}{H H':zj}{Fz Fz':Nat}{fp fp':FP}(hp:p=p')(hH:H=H')(hF:Fz=Fz')(hf:fp=fp'):p.go slot H Fz S fp k=p'.go slot H' Fz' S fp' k:=by rw[hp,hH,hF,hf]
def yi{β:Type}(v:V)(k:V→β):β:=k v
@[go_sem↓]theorem go_ret(v:V):(Prog.ret v).go slot H Fz S fp k=yi v fun v=>k v H Fz S fp:=by cases fp;rfl
@[go_sem↓]theorem go_get(id:Nat)(p:Row→Prog)(rd wr fr:Nat)(sk:Bool):(Prog.get id p).go slot H Fz S ⟨rd,wr,fr,sk⟩ k=zn H[id]? fun r=>(p r).go slot H Fz S ⟨rd|||bit id,wr,fr,sk⟩ k:=by
 simp only[Prog.go];cases H[id]? <;>rfl
@[go_sem↓]theorem zdp(id:Nat)(r:Row)(p:Prog)(rd wr fr:Nat)(sk:Bool):(Prog.set id r p).go slot H Fz S ⟨rd,wr,fr,sk⟩ k=need (decide (id<H.length)) (p.go slot (H.set id r) Fz S ⟨rd,wr|||bit id,fr,sk⟩ k):=by
 rw[show decide (id<H.length)=Nat.blt id H.length from Bool.eq_iff_iff.2 (by simp[Nat.blt_eq])];simp only[Prog.go];cases Nat.blt id H.length<;>rfl
@[go_sem↓]theorem ze7(id:Nat)(p:Bool→Prog)(rd wr fr:Nat)(sk:Bool):(Prog.isFz id p).go slot H Fz S ⟨rd,wr,fr,sk⟩ k=(p (Fz.testBit id)).go slot H Fz S ⟨rd,wr|||bit id,fr,sk⟩ k:=rfl
@[go_sem↓]theorem yzk(id:Nat)(p:Prog)(rd wr fr:Nat)(sk:Bool):(Prog.frz id p).go slot H Fz S ⟨rd,wr,fr,sk⟩ k=p.go slot H (Fz|||bit id) S ⟨rd,wr,fr|||bit id,sk⟩ k:=rfl
@[go_sem↓]theorem zhy(p:Nat→Prog):(Prog.base p).go none H Fz S fp k=(p H.length).go none H Fz S fp k:=by cases fp;rfl
@[go_sem↓]theorem yzl(i:Nat)(p:Nat→Prog):(Prog.base p).go (some i) H Fz S fp k=(p i).go (some i) H Fz S fp k:=by cases fp;rfl
@[go_sem↓]theorem go_new_n(r:Row)(p:Prog):(Prog.new r p).go none H Fz S fp k=p.go none (H++ [r]) Fz S fp k:=by cases fp;rfl
def zh1(o:Option Row)(k:Option α):Option α:=match o with|some .free=>k|_=>none
@[congr]theorem freeK_congr{o o':Option Row}(k:Option α)(h:o=o'):zh1 o k=zh1 o' k:=by rw[h]
@[go_sem↓]theorem freeK_s(k:Option α):zh1 (some .free) k=k:=rfl
@[go_sem↓]theorem go_new_s(i:Nat)(r:Row)(p:Prog)(rd wr fr:Nat)(sk:Bool):(Prog.new r p).go (some i) H Fz S ⟨rd,wr,fr,sk⟩ k=zh1 H[i]? (p.go (some i) (H.set i r) Fz S ⟨rd,wr|||bit i,fr,sk⟩ k):=rfl
@[go_sem↓]theorem go_stk(p:xb→Prog)(rd wr fr:Nat)(sk:Bool):(Prog.stk p).go slot H Fz S ⟨rd,wr,fr,sk⟩ k=(p S).go slot H Fz S ⟨rd,wr,fr,true⟩ k:=rfl
@[go_sem↓]theorem go_setStk(s:xb)(p:Prog)(rd wr fr:Nat)(sk:Bool):(Prog.setStk s p).go slot H Fz S ⟨rd,wr,fr,sk⟩ k=p.go slot H Fz s ⟨rd,wr,fr,true⟩ k:=rfl
@[go_sem↓]theorem go_needP(b:Bool)(p:Prog):(needP b p).go slot H Fz S fp k=need b (p.go slot H Fz S fp k):=by cases b<;>rfl
@[go_sem↓]theorem zbm{β:Type}(o:Option β)(p:β→Prog):(optP o p).go slot H Fz S fp k=zn o fun v=>(p v).go slot H Fz S fp k:=by cases o<;>rfl
@[go_sem]theorem FPnone:FP.none=⟨0,0,0,false⟩:=rfl
end go
section
variable {β:Type} (kk:V→β)
@[go_sem↓]theorem evK_int(k:IntKind)(x:Int):yi (.int k x) kk=kk (.int k x):=rfl
@[go_sem↓]theorem evK_bool(x:Bool):yi (.bool x) kk=kk (.bool x):=rfl
@[go_sem↓]theorem evK_str(x:List UInt8):yi (.str x) kk=kk (.str x):=rfl
@[go_sem↓]theorem evK_sl(b:Bool)(z:Nat)(l:List V):yi (.sl b z l) kk=kk (.sl b z l):=rfl
@[go_sem↓]theorem evK_ref(x:Nat):yi (.ref x) kk=kk (.ref x):=rfl
@[go_sem↓]theorem evK_sub(a b c:Nat):yi (.sub a b c) kk=kk (.sub a b c):=rfl
@[go_sem↓]theorem evK_ptr(a b c:Nat):yi (.ptr a b c) kk=kk (.ptr a b c):=rfl
@[go_sem↓]theorem evK_map(a:Nat):yi (.map a) kk=kk (.map a):=rfl
@[go_sem↓]theorem evK_it(a:Nat):yi (.it a) kk=kk (.it a):=rfl
@[go_sem↓]theorem evK_fn(f:Nat)(c:List V):yi (.fn f c) kk=kk (.fn f c):=rfl
@[go_sem↓]theorem evK_agg(c:List V):yi (.agg c) kk=kk (.agg c):=rfl
@[go_sem↓]theorem evK_tup(c:List V):yi (.tup c) kk=kk (.tup c):=rfl
@[go_sem↓]theorem evK_undef:yi .undef kk=kk .undef:=rfl
@[go_sem↓]theorem evK_nilm:yi .nilm kk=kk .nilm:=rfl
@[go_sem↓]theorem evK_nilf:yi .nilf kk=kk .nilf:=rfl
@[go_sem↓]theorem evK_pp(z:Nat)(l:List V)(i j:Nat):yi (.pp z l i j) kk=kk (.pp z l i j):=rfl
@[go_sem↓]theorem evK_glob(a b:Nat):yi (.glob a b) kk=kk (.glob a b):=rfl
@[go_sem↓]theorem evK_yld(a:Nat):yi (.yld a) kk=kk (.yld a):=rfl
end
section toP
@[go_sem↓]theorem zcv(p:Prog):toP (some p)=p:=rfl
@[go_sem]theorem zge(b:Bool)(k:Option Prog):toP (need b k)=needP b (toP k):=by cases b<;>rfl
@[go_sem]theorem zcw{β:Type}(o:Option β)(k:β→Option Prog):toP (zn o k)=optP o fun v=>toP (k v):=by cases o<;>rfl
@[go_sem]theorem zb7{α:Type}(l:List V)(i:Nat)(k:V→Option α):get l i k=zn l[i]? k:=by unfold get;cases l[i]? <;>rfl
variable {α:Type}
@[go_sem]theorem asBool_b(b:Bool)(k:Bool→Option α):asBool (.bool b) k=k b:=rfl
@[go_sem]theorem asInt_i(kd:IntKind)(n:Int)(k:IntKind→Int→Option α):asInt (.int kd n) k=k kd n:=rfl
@[go_sem]theorem yoq(kd:IntKind)(n:Int)(k:Int→Option α):ug kd (.int kd n) k=k n:=by simp[ug]
@[go_sem]theorem asStr_s(s:List UInt8)(k:List UInt8→Option α):zd6 (.str s) k=k s:=rfl
@[go_sem]theorem asAgg_a(cs:List V)(k:List V→Option α):asAgg (.agg cs) k=k cs:=rfl
@[go_sem]theorem asTup_a(cs:List V)(k:List V→Option α):zaj (.tup cs) k=k cs:=rfl
@[go_sem]theorem asSl_same(z:Nat)(b:Bool)(l:List V)(k:Bool→List V→Option α):v5 z (.sl b z l) k=k b l:=by
 simp only[v5];have:Nat.beq z z=true:=Nat.beq_refl z;rw[this];rfl
@[go_sem]theorem asSl_nil(z:Nat)(k:Bool→List V→Option α)(z':Nat)(l:List V):v5 z (.sl false z' l) k=k false l:=by
 simp[v5]
@[go_sem]theorem yu4(i:Int)(k:Nat→Option α):zha i k=need (decide (0≤i)) (k i.toNat):=rfl
@[go_sem]theorem xe(a b:Nat):Nat.beq a b=(a==b):=Bool.eq_iff_iff.2 (by simp)
@[go_sem]theorem zft(a b:Nat):Nat.ble a b=decide (a≤b):=Bool.eq_iff_iff.2 (by simp)
@[go_sem]theorem yon(a b:Nat):Nat.blt a b=decide (a<b):=Bool.eq_iff_iff.2 (by simp[Nat.blt_eq])
end toP
section ops
variable {α:Type} (ih:Ih) (T:Tab) (raw:Bool) (ev:Operand→V)
@[go_sem↓]theorem goS_eq(slot:Option Nat)(op:Op)(fn nt fp:Nat)(env:Den.Env)(H:zj)(Fz:Nat)(S:xb)(k:V→St→FP→Option α):ud ih T slot op ⟨fn,nt,fp,env,H,Fz,S⟩ k=
  (yh ih T (T.raw fn) (St.eval ⟨fn,nt,fp,env,H,Fz,S⟩) op).go slot H Fz S ⟨0,0,0,false⟩ fun v H Fz S f=>k v ⟨fn,nt,fp,env,H,Fz,S⟩ f:=rfl
@[congr]theorem opQ_congr(op:Op){raw raw':Bool}(h:raw=raw'):yh ih T raw ev op=yh ih T raw' ev op:=by rw[h]
@[go_sem↓]theorem opQ_move(x:Operand):yh ih T raw ev (.move x)= .ret (ev x):=rfl
@[go_sem↓]theorem opQ_assign(x:Operand):yh ih T raw ev (.assign x)= .ret (ev x):=rfl
@[go_sem]theorem opQ_pick(c a b:Operand):yh ih T raw ev (.pick c a b)=toP (asBool (ev c) fun b'=>some (.ret (br b' (ev a) (ev b)))):=by
 show toP (asBool (ev c) fun b'=>some (br b' (.ret (ev a)) (.ret (ev b))))=_;congr 2;funext b';cases b'<;>rfl
@[go_sem]theorem br_bool(b x y:Bool):br b (V.bool x) (V.bool y)= .bool (cond b x y):=by cases b<;>rfl
@[go_sem]theorem opQ_alloc(t:TypeId):yh ih T raw ev (.alloc t)=needP (zg (T.size t) (T.zero t)) (newP (.cells true (pureV (T.zero t)) t [T.zero t]) fun id=> .ret (.ptr id 0 0)):=rfl
@[go_sem]theorem opQ_box(t:TypeId)(x:Operand):yh ih T raw ev (.box t x)=needP (zg (T.size t) (ev x)) (newP (.cells true (pureV (ev x)) t [ev x]) fun id=> .ret (.ptr id 0 0)):=rfl
@[go_sem]theorem opQ_build(t:TypeId)(ps:Array (Nat×Operand)):yh ih T raw ev (.build t ps)=toP (zd2 T t (ps.toList.map fun(i,x)=>(i,ev x)) fun v=>some (.ret v)):=rfl
@[go_sem]theorem opQ_load(t:TypeId)(a:Operand):yh ih T raw ev (.load t a)=j9 T t (ev a) .ret:=rfl
@[go_sem]theorem opQ_store(t:TypeId)(a v:Operand):yh ih T raw ev (.store t a v)=zcy T raw t (ev a) (ev v) (.ret .undef):=rfl
@[go_sem]theorem opQ_binOp(op:BinOp)(t:TypeId)(x y:Operand)(u:TypeId):yh ih T raw ev (.binOp op t x y u)=toP (xg T op t (ev x) (ev y) fun v=>some (.ret v)):=rfl
@[go_sem]theorem opQ_unOp(op:UnOp)(t:TypeId)(x:Operand):yh ih T raw ev (.unOp op t x)=toP (unK op (ev x) fun v=>some (.ret v)):=rfl
def cvQ(T:Tab)(a b:TD)(s d:TypeId)(x:V):Prog:=match a,b with
 | .slice e,.string=>(match T.td e with
  | .int .u8=>needP (zg7 x) (jv T 1 x fun l=>optP (bytesOf l) fun b=> .ret (.str b))
  |_=> .fail)
 |_,_=>toP (zaz T s d x fun v=>some (.ret v))
@[go_sem]theorem opQ_convert(s d:TypeId)(x:Operand):yh ih T raw ev (.convert s d x)=optP (T.ti s) fun _=>cvQ T (T.td s) (T.td d) s d (ev x):=rfl
@[go_sem]theorem cvQ_int(k:IntKind)(b:TD)(s d:TypeId)(x:V):cvQ T (.int k) b s d x=toP (zaz T s d x fun v=>some (.ret v)):=rfl
attribute [go_sem] zg7 bytesOf
@[go_sem]theorem opQ_makeFunc(f:FuncId)(cap:Array Operand):yh ih T raw ev (.makeFunc (.func f) #[] cap)=needP (!z9 (cap.toList.map ev)) (.ret (.fn f (cap.toList.map ev))):=rfl
@[go_sem]theorem opQ_makeMap(t:TypeId):yh ih T raw ev (.makeMap t none)=newP (.map []) fun id=> .ret (.map id):=rfl
@[go_sem]theorem opQ_slice(t:TypeId)(x:Operand)(lo hi:Option Operand):yh ih T raw ev (.slice t x lo hi none)=zba T t (ev x) (lo.map ev) (hi.map ev) .ret:=rfl
@[go_sem]theorem opQ_fieldAddr(s:TypeId)(x:Operand)(f:Nat):yh ih T raw ev (.fieldAddr s x f)=toP (zcb T s (ev x) f fun v=>some (.ret v)):=rfl
@[go_sem]theorem opQ_indexAddr(t:TypeId)(x i:Operand):yh ih T raw ev (.indexAddr t x i)=toP (asInt (ev i) fun _ n=>some (zbk T t (ev x) n .ret)):=rfl
@[go_sem]theorem opQ_extract(t:Operand)(i:Nat):yh ih T raw ev (.extract t i)=toP (zaj (ev t) fun vs=>get vs i fun v=>some (.ret v)):=rfl
def zn3(f:Operand)(args:List V):Prog:=match f with
 | .func f=>callP ih T f args .ret
 |x=>callV ih T (ev x) args .ret
@[go_sem]theorem opQ_call(f:Operand)(args:Array Operand)(tys:Array TypeId):yh ih T raw ev (.call ⟨.value f,args,tys⟩)=zn3 ih T ev f (args.toList.map ev):=by cases f<;>rfl
@[go_sem]theorem callee_func(f:FuncId)(args:List V):zn3 ih T ev (.func f) args=callP ih T f args .ret:=rfl
@[go_sem]theorem callee_tmp(t:Nat)(args:List V):zn3 ih T ev (.tmp t) args=callV ih T (ev (.tmp t)) args .ret:=rfl
@[go_sem]theorem opQ_builtin(b:Builtin)(args:Array Operand)(tys:Array TypeId):yh ih T raw ev (.call ⟨.builtin b,args,tys⟩)=jy T b tys.toList (args.toList.map ev) .ret:=rfl
@[go_sem]theorem callV_fn(f:FuncId)(cap args:List V)(k:V→Prog):callV ih T (.fn f cap) args k=callP ih T f (zd0 args cap) k:=rfl
@[go_sem]theorem capArgs_nil(args:List V):zd0 args []=args++ []:=rfl
@[go_sem]theorem capArgs_cons(args r:List V)(v:V)(h:zm v=false):zd0 args (v::r)=args++v::r:=by cases v<;>first|rfl|cases h
theorem yun(t:TypeId)(x i:Operand):yh ih T raw ev (.index t x i)=toP (asInt (ev i) fun _ n=>(match ev x,T.td t with
  | .agg cs,.array len e=>need (decide (0≤n∧n<len)) (match T.isAgg e with
   |true=>need (Nat.ble (n.toNat*T.size e+T.size e) cs.length) (some (.ret (.agg ((cs.drop (n.toNat*T.size e)).take (T.size e)))))
   |false=>need (Nat.beq (T.size e) 1) (get cs n.toNat fun v=>some (.ret v)))
  | .str s,.string=>need (decide (0≤n)) (match s[n.toNat]? with|some c=>some (.ret (.int .u8 c.toNat))|none=>none)
  |_,_=>none)):=rfl
end ops
section bin
variable {α:Type} (T:Tab) (t:TypeId) (kd:IntKind) (a b:Int) (k:V→Option α)
@[go_sem]theorem bin_add:xg T .add t (.int kd a) (.int kd b) k=k (.int kd (kd.wrap (a+b))):=by simp[xg,arith,zn]
@[go_sem]theorem bin_sub:xg T .sub t (.int kd a) (.int kd b) k=k (.int kd (kd.wrap (a- b))):=by simp[xg,arith,zn]
@[go_sem]theorem bin_mul:xg T .mul t (.int kd a) (.int kd b) k=k (.int kd (kd.wrap (a*b))):=by simp[xg,arith,zn]
@[go_sem]theorem bin_and:xg T .and t (.int kd a) (.int kd b) k=k (.int kd (kd.wrap (BitVec.ofInt kd.bits a&&&BitVec.ofInt kd.bits b).toNat)):=by simp[xg,arith,zn]
@[go_sem]theorem bin_eql:xg T .eql t (.int kd a) (.int kd b) k=k (.bool (a==b)):=by simp[xg,arith,zn]
@[go_sem]theorem bin_neq:xg T .neq t (.int kd a) (.int kd b) k=k (.bool (a !=b)):=by simp[xg,arith,zn]
@[go_sem]theorem bin_lss:xg T .lss t (.int kd a) (.int kd b) k=k (.bool (decide (a<b))):=by simp[xg,arith,zn]
@[go_sem]theorem bin_leq:xg T .leq t (.int kd a) (.int kd b) k=k (.bool (decide (a≤b))):=by simp[xg,arith,zn]
@[go_sem]theorem bin_gtr:xg T .gtr t (.int kd a) (.int kd b) k=k (.bool (decide (b<a))):=by simp[xg,arith,zn]
@[go_sem]theorem bin_geq:xg T .geq t (.int kd a) (.int kd b) k=k (.bool (decide (b≤a))):=by simp[xg,arith,zn]
@[go_sem]theorem bin_quo:xg T .quo t (.int kd a) (.int kd b) k=need (!(b==0)) (k (.int kd (kd.wrap (a.tdiv b)))):=by simp[xg]
@[go_sem]theorem bin_rem:xg T .rem t (.int kd a) (.int kd b) k=need (!(b==0)) (k (.int kd (a.tmod b))):=by simp[xg]
@[go_sem]theorem bin_shr(kb:IntKind):xg T .shr t (.int kd a) (.int kb b) k=need (decide (0≤b)) (k (.int kd (a.fdiv (2^(min b.toNat kd.bits))))):=rfl
variable (x y:List UInt8)
@[go_sem]theorem bin_sadd:xg T .add t (.str x) (.str y) k=need (decide (x.length+y.length<zhg)) (k (.str (x++y))):=rfl
@[go_sem]theorem bin_seql:xg T .eql t (.str x) (.str y) k=k (.bool (x==y)):=rfl
@[go_sem]theorem bin_sneq:xg T .neq t (.str x) (.str y) k=k (.bool (!(x==y))):=rfl
@[go_sem]theorem bin_bneq(x y:Bool)(h:T.td t= .bool):xg T .neq t (.bool x) (.bool y) k=k (.bool (!(x==y))):=by simp[xg,kp,eqT,h,zn]
@[go_sem]theorem bin_aeql(x y:List V):xg T .eql t (.agg x) (.agg y) k=zn (eqT T 5 t (.agg x) (.agg y)) fun b=>k (.bool b):=rfl
@[go_sem]theorem bin_aneq(x y:List V):xg T .neq t (.agg x) (.agg y) k=zn (eqT T 5 t (.agg x) (.agg y)) fun b=>k (.bool (!b)):=rfl
@[go_sem]theorem un_not(x:Bool):unK .not (.bool x) k=k (.bool (!x)):=rfl
end bin
section cells
@[go_sem]theorem cellsOf_agg(cs:List V):cellsOf (.agg cs)=cs:=rfl
@[go_sem]theorem cellsOf_int(k:IntKind)(n:Int):cellsOf (.int k n)= [.int k n]:=rfl
@[go_sem]theorem cellsOf_bool(b:Bool):cellsOf (.bool b)= [.bool b]:=rfl
@[go_sem]theorem cellsOf_str(s:List UInt8):cellsOf (.str s)= [.str s]:=rfl
@[go_sem]theorem cellsOf_sl(b:Bool)(z:Nat)(l:List V):cellsOf (.sl b z l)= [.sl b z l]:=rfl
@[go_sem]theorem cellsOf_ref(b:Nat):cellsOf (.ref b)= [.ref b]:=rfl
@[go_sem]theorem isEl_agg(n:Nat)(cs:List V):zg n (.agg cs)=((cs.length==n)&&cs.all isCell):=by simp only[zg,xe]
@[go_sem]theorem isEl_int(n:Nat)(k:IntKind)(x:Int):zg n (.int k x)=(n==1):=by simp only[zg,xe,isCell,Bool.and_true]
@[go_sem]theorem isEl_bool(n:Nat)(x:Bool):zg n (.bool x)=(n==1):=by simp only[zg,xe,isCell,Bool.and_true]
@[go_sem]theorem isEl_str(n:Nat)(x:List UInt8):zg n (.str x)=(n==1):=by simp only[zg,xe,isCell,Bool.and_true]
@[go_sem]theorem isEl_sl(n:Nat)(k:Bool)(x:Nat)(l:List V):zg n (.sl k x l)=(n==1):=by simp only[zg,xe,isCell,Bool.and_true]
@[go_sem]theorem isEl_ref(n:Nat)(k:Nat):zg n (.ref k)=(n==1):=by simp only[zg,xe,isCell,Bool.and_true]
attribute [go_sem] newP
@[go_sem]theorem yldL_nil:z9 []=false:=rfl
@[go_sem]theorem yldL_cons(v:V)(r:List V):z9 (v::r)=(zm v||z9 r):=rfl
@[go_sem]theorem idsL_nil:zi []= []:=rfl
@[go_sem]theorem idsL_cons(v:V)(r:List V):zi (v::r)=idsV v++zi r:=rfl
@[go_sem]theorem idsV_int(k:IntKind)(x:Int):idsV (.int k x)= []:=by simp only[idsV]
@[go_sem]theorem idsV_bool(x:Bool):idsV (.bool x)= []:=by simp only[idsV]
@[go_sem]theorem idsV_str(x:List UInt8):idsV (.str x)= []:=by simp only[idsV]
@[go_sem]theorem idsV_sl(b:Bool)(z:Nat)(l:List V):idsV (.sl b z l)= []:=by simp only[idsV]
@[go_sem]theorem idsV_ref(x:Nat):idsV (.ref x)= [x]:=by simp only[idsV]
@[go_sem]theorem idsV_sub(a b c:Nat):idsV (.sub a b c)= [a]:=by simp only[idsV]
@[go_sem]theorem idsV_ptr(a b c:Nat):idsV (.ptr a b c)= [a]:=by simp only[idsV]
@[go_sem]theorem idsV_map(a:Nat):idsV (.map a)= [a]:=by simp only[idsV]
@[go_sem]theorem idsV_it(a:Nat):idsV (.it a)= [a]:=by simp only[idsV]
@[go_sem]theorem idsV_fn(f:Nat)(c:List V):idsV (.fn f c)=zi c:=by simp only[idsV]
@[go_sem]theorem idsV_agg(c:List V):idsV (.agg c)=zi c:=by simp only[idsV]
@[go_sem]theorem idsV_tup(c:List V):idsV (.tup c)=zi c:=by simp only[idsV]
@[go_sem]theorem idsV_pp(z:Nat)(l:List V)(i j:Nat):idsV (.pp z l i j)= []:=by simp only[idsV]
@[go_sem]theorem idsV_yld(a:Nat):idsV (.yld a)= []:=by simp only[idsV]
@[go_sem]theorem yldV_int(k:IntKind)(x:Int):zm (.int k x)=false:=rfl
@[go_sem]theorem isCell_int(k:IntKind)(x:Int):isCell (.int k x)=true:=rfl
@[go_sem]theorem yldV_bool(x:Bool):zm (.bool x)=false:=rfl
@[go_sem]theorem yldV_str(x:List UInt8):zm (.str x)=false:=rfl
@[go_sem]theorem isCell_str(x:List UInt8):isCell (.str x)=true:=rfl
@[go_sem]theorem yldV_sl(b:Bool)(z:Nat)(l:List V):zm (.sl b z l)=false:=rfl
@[go_sem]theorem isCell_sl(b:Bool)(z:Nat)(l:List V):isCell (.sl b z l)=true:=rfl
@[go_sem]theorem yldV_ref(x:Nat):zm (.ref x)=false:=rfl
@[go_sem]theorem isCell_ref(x:Nat):isCell (.ref x)=true:=rfl
@[go_sem]theorem yldV_sub(a b c:Nat):zm (.sub a b c)=false:=rfl
@[go_sem]theorem yldV_ptr(a b c:Nat):zm (.ptr a b c)=false:=rfl
@[go_sem]theorem yldV_map(a:Nat):zm (.map a)=false:=rfl
@[go_sem]theorem yldV_fn(f:Nat)(c:List V):zm (.fn f c)=false:=rfl
@[go_sem]theorem isCell_fn(f:Nat)(c:List V):isCell (.fn f c)=true:=rfl
@[go_sem]theorem yldV_agg(c:List V):zm (.agg c)=false:=rfl
@[go_sem]theorem yldV_pp(z:Nat)(l:List V)(i j:Nat):zm (.pp z l i j)=false:=rfl
@[go_sem]theorem pureV_eq(v:V):pureV v=(idsV v).isEmpty:=rfl
@[go_sem]theorem pureL_eq(v:List V):pureL v=(zi v).isEmpty:=rfl
end cells
attribute [go_sem] Tab.size Tab.bytes Tab.isAgg Tab.zero Tab.td
section mem
variable (T:Tab) (t:TypeId) (k:V→Prog)
@[go_sem]theorem load_pp(z:Nat)(l:List V)(i j:Nat):j9 T t (.pp z l i j) k=optP l[i]? fun v=>toP (jt T z t v j fun w=>shape T 6 t w fun w=>some (k w)):=by
 simp only[j9,zb7,zcw];rfl
def ze2(i j:Nat):Row→Prog
 | .cells true _ ety l=>toP (get l i fun v=>jt T (T.size ety) t v j fun w=>some (k w))
 | .cells false _ ety l=>toP (get l i fun v=>jt T (T.size ety) t v j fun w=>shape T 6 t w fun w=>some (k w))
 |_=> .fail
@[go_sem]theorem load_ptr(id i j:Nat):j9 T t (.ptr id i j) k= .get id fun r=>ze2 T t k i j r:=by
 simp only[j9];congr 1
@[go_sem]theorem loadRow_box(fl:Bool)(e i j:Nat)(l:List V):ze2 T t k i j (.cells true fl e l)=optP l[i]? fun v=>toP (jt T (T.size e) t v j fun w=>some (k w)):=by
 simp only[ze2,zb7,zcw]
@[go_sem]theorem loadRow_row(fl:Bool)(e i j:Nat)(l:List V):ze2 T t k i j (.cells false fl e l)=optP l[i]? fun v=>toP (jt T (T.size e) t v j fun w=>shape T 6 t w fun w=>some (k w)):=by
 simp only[ze2,zb7,zcw]
end mem
section parts
variable {α:Type} (T:Tab) (k:V→Option α)
def zde(agg:Bool)(sz s:Nat)(v:V)(j:Nat)(k:V→Option α):Option α:=
 match agg with
 |true=>(match (j==0)&&(s==sz)with
  |true=>asAgg v fun cs=>k (.agg cs)
  |false=>need (decide (j+s≤sz)) (k (.agg (((cellsOf v).drop j).take s))))
 |false=>need (s==1) (get (cellsOf v) j k)
theorem yti(sz:Nat)(t:TypeId)(v:V)(j:Nat):jt T sz t v j k=zde (T.isAgg t) sz (T.size t) v j k:=by
 unfold jt zde;simp only[xe,zft];cases T.isAgg t with
 |true=>cases hb:(j==0&&T.size t==sz)<;>rfl
 |false=>rfl
attribute [go_sem] yti
@[go_sem]theorem partB_cell(sz s:Nat)(v:V)(j:Nat):zde false sz s v j k=need (s==1) (zn (cellsOf v)[j]? k):=by simp only[zde,zb7]
@[go_sem]theorem partB_whole(sz:Nat)(v:V):zde true sz sz v 0 k=asAgg v fun cs=>k (.agg cs):=by simp[zde]
def ju(T:Tab)(n:Nat)(t:TypeId)(d:TD)(v:V)(k:V→Option α):Option α:=match d with
   | .int kd=>ug kd v fun i=>k (.int kd i)
   | .bool=>asBool v fun b=>k (.bool b)
   | .string=>zd6 v fun s=>k (.str s)
   | .float kd=>zj0 kd v fun s=>k (.flt kd s)
   | .slice e=>(match v with
    | .ref _| .sub _ _ _=>k v
    |v=>v5 (T.size e) v fun b l=>k (.sl b (T.size e) l))
   | .struct fs=>asAgg v fun cs=>need (Nat.beq cs.length (T.size t)) (shFields T (shape T n) fs cs [] fun r=>need (Nat.beq r.length (T.size t)) (k (.agg r)))
   | .array len e=>asAgg v fun cs=>need (Nat.beq cs.length (T.size t)) (shElems T (shape T n) e len cs [] fun r=>need (Nat.beq r.length (T.size t)) (k (.agg r)))
   | .tuple ts=>zaj v fun vs=>need (Nat.beq vs.length ts.length) (shParts (shape T n) ts vs [] fun r=>k (.tup r))
   |_=>k v
theorem yrj(n:Nat)(t:TypeId)(v:V):shape T (n+1) t v k=ju T n t (T.td t) v k:=by
 unfold ju;simp only[shape];cases T.td t with
 |slice e=>cases v<;>rfl
 |_=>rfl
attribute [go_sem] yrj
variable (n:Nat) (t:TypeId)
@[go_sem]theorem shape_int(kd:IntKind)(v:V):ju T n t (.int kd) v k=ug kd v fun i=>k (.int kd i):=rfl
@[go_sem]theorem shape_bool(v:V):ju T n t .bool v k=asBool v fun i=>k (.bool i):=rfl
@[go_sem]theorem shape_string(v:V):ju T n t .string v k=zd6 v fun i=>k (.str i):=rfl
@[go_sem]theorem shape_func(v:V):ju T n t .func v k=k v:=rfl
@[go_sem]theorem shape_map(a b:TypeId)(v:V):ju T n t (.map a b) v k=k v:=rfl
@[go_sem]theorem shape_sl_ref(e:TypeId)(i:Nat):ju T n t (.slice e) (.ref i) k=k (.ref i):=rfl
@[go_sem]theorem shape_sl_sub(e:TypeId)(i a b:Nat):ju T n t (.slice e) (.sub i a b) k=k (.sub i a b):=rfl
@[go_sem]theorem shape_sl(e:TypeId)(b:Bool)(z:Nat)(l:List V):ju T n t (.slice e) (.sl b z l) k=v5 (T.size e) (.sl b z l) fun b l=>k (.sl b (T.size e) l):=rfl
@[go_sem]theorem shape_struct(fs:List (Nat×TypeId))(cs:List V):ju T n t (.struct fs) (.agg cs) k=need (cs.length==T.size t) (shFields T (shape T n) fs cs [] fun r=>need (r.length==T.size t) (k (.agg r))):=by simp only[ju,asAgg,xe]
@[go_sem]theorem shape_array(len:Nat)(e:TypeId)(cs:List V):ju T n t (.array len e) (.agg cs) k=need (cs.length==T.size t) (shElems T (shape T n) e len cs [] fun r=>need (r.length==T.size t) (k (.agg r))):=by simp only[ju,asAgg,xe]
variable (sh:TypeId→V→(V→Option α)→Option α) (kk:List V→Option α)
@[go_sem]theorem shF_nil(cs acc:List V):shFields T sh [] cs acc kk=kk acc:=rfl
def zkq(agg:Bool)(T:Tab)(sh:TypeId→V→(V→Option α)→Option α)(t:TypeId)(fs:List (Nat×TypeId))(cs acc:List V)(kk:List V→Option α):Option α:=match agg with
  |true=>sh t (.agg (cs.take (T.size t))) fun w=>asAgg w fun ws=>shFields T sh fs (cs.drop (T.size t)) (acc++ws) kk
  |false=>get cs 0 fun c=>sh t c fun w=>shFields T sh fs (cs.drop 1) (acc++ [w]) kk
@[go_sem]theorem shF_cons(o:Nat)(fs:List (Nat×TypeId))(cs acc:List V):shFields T sh ((o,t)::fs) cs acc kk=zkq (T.isAgg t) T sh t fs cs acc kk:=by
 simp only[shFields,zkq];cases T.isAgg t<;>rfl
@[go_sem]theorem shE_0(e:TypeId)(cs acc:List V):shElems T sh e 0 cs acc kk=kk acc:=rfl
@[go_sem]theorem shP_nil(cs acc:List V):shParts sh [] cs acc kk=kk acc:=rfl
@[go_sem]theorem shP_cons(ts:List TypeId)(c:V)(cs acc:List V):shParts sh (t::ts) (c::cs) acc kk=sh t c fun w=>shParts sh ts cs (acc++ [w]) kk:=rfl
end parts
section mem
variable (T:Tab) (t:TypeId) (k:V→Prog)
def zm9(agg:Bool)(s:Nat)(cs:List V)(j:Nat)(k:V→Prog):Prog:=
 match agg with
 |true=>needP (decide (j+s≤cs.length)) (k (.agg ((cs.drop j).take s)))
 |false=>needP (s==1) (optP cs[j]? k)
@[go_sem]theorem globB_f(s:Nat)(cs:List V)(j:Nat):zm9 false s cs j k=needP (s==1) (optP cs[j]? k):=rfl
@[go_sem]theorem load_glob(g j:Nat):j9 T t (.glob g j) k=optP (T.glob g) fun cs=>zm9 (T.isAgg t) (T.size t) cs j k:=by
 simp only[j9,zm9,zb7,zcw,zcv,xe,zft];congr 1<;>(funext cs;cases T.isAgg t<;>rfl)
def setRow(b:Bool)(id i j:Nat)(v:V)(k:Prog):Row→Prog
 | .cells b' fl ety l=>needP (b==b') (optP l[i]? fun old=>needP (zg (T.size t) v&&(decide (0<T.size t)&&decide (j+T.size t≤T.size ety))) (.set id (.cells b' (fl&&pureV v) ety (l.set i (vr old v j))) k))
 |_=> .fail
@[go_sem]theorem storeAt_eq(b:Bool)(id i j:Nat)(v:V)(k:Prog):storeAt T b id i j t v k= .get id fun r=>setRow T t b id i j v k r:=by
 unfold storeAt;congr 1;funext r;cases r with
 |cells b' fl ety l=>simp only[setRow,zb7,zcw,zge,zcv,zft,yon]
 |_=>rfl
@[go_sem]theorem setRow_c(b:Bool)(id i j:Nat)(v:V)(k:Prog)(b' fl:Bool)(ety:TypeId)(l:List V):setRow T t b id i j v k (.cells b' fl ety l)=
  needP (b==b') (optP l[i]? fun old=>needP (zg (T.size t) v&&(decide (0<T.size t)&&decide (j+T.size t≤T.size ety))) (.set id (.cells b' (fl&&pureV v) ety (l.set i (vr old v j))) k)):=rfl
def zgh(raw:Bool)(id i j:Nat)(v:V)(k:Prog):Row→Prog
 | .cells true _ _ _=>storeAt T true id i j t v k
 | .cells false _ _ _=>br raw (storeAt T false id i j t v k) (vd T v fun v=> .isFz id fun z=>needP (!z) (storeAt T false id i j t v k))
 |_=> .fail
@[go_sem]theorem store_eq(raw:Bool)(id i j:Nat)(v:V)(k:Prog):zcy T raw t (.ptr id i j) v k= .isFz id fun z=>needP (!z) (.get id fun r=>zgh T t raw id i j v k r):=by
 simp only[zcy];congr 1;funext z;cases z with
 |true=>rfl
 |false=>
  simp only[Bool.not_false,needP];congr 1;funext r;cases r with
  |cells b fl e l=>cases b with
   |true=>rfl
   |false=>
    cases raw with
    |true=>rfl
    |false=>
     simp only[zgh,br];congr 1;funext v;congr 1;funext z;cases z<;>rfl
  |_=>rfl
@[go_sem]theorem stRow_t(raw fl:Bool)(id i j:Nat)(v:V)(k:Prog)(e:TypeId)(l:List V):zgh T t raw id i j v k (.cells true fl e l)=storeAt T true id i j t v k:=rfl
@[go_sem]theorem stRow_f(raw fl:Bool)(id i j:Nat)(v:V)(k:Prog)(e:TypeId)(l:List V):zgh T t raw id i j v k (.cells false fl e l)=
  br raw (storeAt T false id i j t v k) (vd T v fun v=> .isFz id fun z=>needP (!z) (storeAt T false id i j t v k)):=rfl
@[go_sem]theorem stowP_pure(v:V)(k:V→Prog)(h:pureV v=true):vd T v k=k v:=by simp[vd,h]
@[go_sem]theorem stowLP_pure(l:List V)(k:List V→Prog)(h:pureL l=true):stowLP T l k=k l:=by simp[stowLP,h]
@[go_sem]theorem setPart_agg(cs:List V)(v:V)(j:Nat):vr (.agg cs) v j= .agg (xl cs j (cellsOf v)):=rfl
@[go_sem]theorem setPart_int(kd:IntKind)(n:Int)(v:V)(j:Nat):vr (.int kd n) v j=v:=rfl
@[go_sem]theorem setPart_bool(n:Bool)(v:V)(j:Nat):vr (.bool n) v j=v:=rfl
@[go_sem]theorem setPart_sl(b:Bool)(z:Nat)(l:List V)(v:V)(j:Nat):vr (.sl b z l) v j=v:=rfl
@[go_sem]theorem setPart_ref(i:Nat)(v:V)(j:Nat):vr (.ref i) v j=v:=rfl
def zav(T:Tab)(d:TD)(x:V)(i:Int)(k:V→Prog):Prog:=
 match d with
 | .slice e=>(match x with
  | .sl _ sz l=>needP (decide (0≤i∧i<l.length)&&(sz==T.size e)) (k (.pp sz l i.toNat 0))
  | .ref id=> .get id fun r=>(match r with
   | .cells _ _ ety l=>needP (decide (0≤i∧i<l.length)&&(T.size ety==T.size e)) (k (.ptr id i.toNat 0))
   |_=> .fail)
  | .sub id a b=> .get id fun r=>(match r with
   | .cells _ _ ety _=>needP (decide (0≤i∧i<b)&&(T.size ety==T.size e)) (k (.ptr id (a+i.toNat) 0))
   |_=> .fail)
  |_=> .fail)
 | .array n e=>needP (decide (0≤i∧i<n)) (match x with
  | .ptr id a j=>k (.ptr id a (j+i.toNat*T.size e))
  | .pp sz l a j=>k (.pp sz l a (j+i.toNat*T.size e))
  | .glob g j=>k (.glob g (j+i.toNat*T.size e))
  |_=> .fail)
 |_=> .fail
@[go_sem]theorem index_eq(x:V)(i:Int):zbk T t x i k=zav T (T.td t) x i k:=by
 unfold zbk zav;cases T.td t with
 |slice e=>
  cases x with
  |sl b z l=>simp only[xe]
  |ref id=>simp only[xe];congr 1<;>(funext r;cases r<;>rfl)
  |sub id a b=>simp only[xe];congr 1<;>(funext r;cases r<;>rfl)
  |_=>rfl
 |array n e=>cases x<;>rfl
 |_=>rfl
def zaa(k:Bool→TypeId→List V→Prog):Row→Prog
 | .cells _ fl e l=>k fl e l
 |_=> .fail
@[go_sem]theorem rowL_c(k:Bool→TypeId→List V→Prog)(b fl:Bool)(e:TypeId)(l:List V):zaa k (.cells b fl e l)=k fl e l:=rfl
@[go_sem]theorem index_sl(e:TypeId)(b:Bool)(z:Nat)(l:List V)(i:Int):zav T (.slice e) (.sl b z l) i k=needP (decide (0≤i∧i<l.length)&&(z==T.size e)) (k (.pp z l i.toNat 0)):=rfl
@[go_sem]theorem index_ref(e:TypeId)(id:Nat)(i:Int):zav T (.slice e) (.ref id) i k= .get id (zaa fun _ ety l=>needP (decide (0≤i∧i<l.length)&&(T.size ety==T.size e)) (k (.ptr id i.toNat 0))):=by
 simp only[zav];congr 1<;>(funext r;cases r<;>rfl)
@[go_sem]theorem index_sub(e:TypeId)(id a b:Nat)(i:Int):zav T (.slice e) (.sub id a b) i k= .get id (zaa fun _ ety l=>needP (decide (0≤i∧i<b)&&(T.size ety==T.size e)) (k (.ptr id (a+i.toNat) 0))):=by
 simp only[zav];congr 1<;>(funext r;cases r<;>rfl)
@[go_sem]theorem index_arr_ptr(n:Nat)(e:TypeId)(id a j:Nat)(i:Int):zav T (.array n e) (.ptr id a j) i k=needP (decide (0≤i∧i<n)) (k (.ptr id a (j+i.toNat*T.size e))):=rfl
@[go_sem]theorem index_arr_glob(n:Nat)(e:TypeId)(g j:Nat)(i:Int):zav T (.array n e) (.glob g j) i k=needP (decide (0≤i∧i<n)) (k (.glob g (j+i.toNat*T.size e))):=rfl
@[go_sem]theorem list_sl(sz:Nat)(b:Bool)(z:Nat)(l:List V)(k:List V→Prog):jv T sz (.sl b z l) k=needP ((z==sz)|| !b) (k l):=by simp only[jv,xe]
@[go_sem]theorem list_ref(sz id:Nat)(k:List V→Prog):jv T sz (.ref id) k= .get id (zaa fun _ ty l=>needP (T.size ty==sz) (k l)):=by
 simp only[jv,xe];congr 1<;>(funext r;cases r<;>rfl)
@[go_sem]theorem len_sl(e:TypeId)(b:Bool)(z:Nat)(l:List V)(k:Nat→Prog):wo (.slice e) (.sl b z l) k=k l.length:=rfl
@[go_sem]theorem len_str(l:List UInt8)(k:Nat→Prog):wo .string (.str l) k=k l.length:=rfl
@[go_sem]theorem len_ref(e:TypeId)(id:Nat)(k:Nat→Prog):wo (.slice e) (.ref id) k= .get id (zaa fun _ _ l=>k l.length):=by
 simp only[wo];congr 1<;>(funext r;cases r<;>rfl)
@[go_sem]theorem len_sub(e:TypeId)(id a b:Nat)(k:Nat→Prog):wo (.slice e) (.sub id a b) k=k b:=rfl
@[congr]theorem lenP_congr{d d':TD}{v v':V}(k:Nat→Prog)(h:d=d')(h':v=v'):wo d v k=wo d' v' k:=by rw[h,h']
@[go_sem]theorem builtin_len(x:V)(t:TypeId)(ts:List TypeId):jy T .len (t::ts) [x] k=wo (T.td t) x fun n=>k (.int .i64 n):=rfl
def zf3(T:Tab)(e:TypeId)(base:V)(xs:List V)(k:V→Prog):Prog:=
 match base with
 | .sl false sz []=>(match xs with
  | []=>k (.sl false sz [])
  |x::r=>needP (decide ((x::r).length<maxRow)) (newP (.cells false (pureL (x::r)) e (x::r)) fun id=>k (.ref id)))
 | .ref id=> .isFz id fun z=>needP (!z) (.get id fun row=>(match row with
   | .cells false fl ety l=>needP (T.size ety==T.size e) (match xs with
    | []=>k (.ref id)
    |x::r=>needP (decide ((l++x::r).length<maxRow)) (.set id .dead (newP (.cells false (fl&&pureL (x::r)) ety (l++x::r)) fun id'=>k (.ref id'))))
   |_=> .fail))
 | .sub id o a=> .isFz id fun z=>needP (!z) (.get id fun row=>(match row with
   | .cells false fl ety l=>needP ((T.size ety==T.size e)&&Nat.ble (o+a+xs.length) l.length)
     (.set id (.cells false (fl&&pureL xs) ety (l.take (o+a)++(xs++l.drop (o+a+xs.length)))) (k (.sub id o (a+xs.length))))
   |_=> .fail))
 |_=> .fail
@[go_sem]theorem append_eq(e:TypeId)(base src:V):wh T e base src k=jv T (T.size e) src fun xs=>needP (decide (T.bytes e≤4096∧T.size e≠0)&&zg (T.size e) (T.zero e)) (zf3 T e base xs k):=by
 unfold wh;congr 1;funext xs;congr 1;unfold zf3;cases base with
 |sl b z l=>cases b<;>cases l<;>(try rfl)<;>cases xs<;>rfl
 |ref id=>
  simp only;congr 1;funext z;cases z with
  |true=>rfl
  |false=>
   simp only[Bool.not_false,needP];congr 1;funext r;cases r with
   |cells b fl e' l=>cases b<;>simp only[xe]<;>(try (cases xs<;>rfl))
   |_=>rfl
 |sub id o a=>
  simp only;congr 1;funext z;cases z with
  |true=>rfl
  |false=>
   simp only[Bool.not_false,needP];congr 1;funext r;cases r with
   |cells b fl e' l=>cases b<;>simp only[xe]
   |_=>rfl
 |_=>rfl
@[go_sem]theorem appB_nil(e:TypeId)(sz:Nat)(x:V)(r:List V):zf3 T e (.sl false sz []) (x::r) k=needP (decide ((x::r).length<maxRow)) (newP (.cells false (pureL (x::r)) e (x::r)) fun id=>k (.ref id)):=rfl
def zj1(T:Tab)(e:TypeId)(id:Nat)(xs:List V)(k:V→Prog):Row→Prog
 | .cells false fl ety l=>needP (T.size ety==T.size e) (match xs with
    | []=>k (.ref id)
    |x::r=>needP (decide ((l++x::r).length<maxRow)) (.set id .dead (newP (.cells false (fl&&pureL (x::r)) ety (l++x::r)) fun id'=>k (.ref id'))))
 |_=> .fail
@[go_sem]theorem appB_ref(e:TypeId)(id:Nat)(xs:List V):zf3 T e (.ref id) xs k= .isFz id fun z=>needP (!z) (.get id fun row=>zj1 T e id xs k row):=by
 simp only[zf3];congr 1<;>(funext z;congr 1<;>(congr 1<;>(funext row;cases row<;>rfl)))
@[go_sem]theorem appRow_0(e ety:TypeId)(id:Nat)(fl:Bool)(l:List V):zj1 T e id [] k (.cells false fl ety l)=needP (T.size ety==T.size e) (k (.ref id)):=rfl
@[go_sem]theorem appRow_s(e ety:TypeId)(id:Nat)(fl:Bool)(l:List V)(x:V)(r:List V):zj1 T e id (x::r) k (.cells false fl ety l)=
  needP (T.size ety==T.size e) (needP (decide ((l++x::r).length<maxRow)) (.set id .dead (newP (.cells false (fl&&pureL (x::r)) ety (l++x::r)) fun id'=>k (.ref id')))):=rfl
def zou(T:Tab)(d d':TD)(x y:V)(k:V→Prog):Prog:=match d,d' with
  | .slice e,.slice _=>wh T e x y k
  | .slice e,.string=>wh T e x y k
  |_,_=> .fail
@[go_sem]theorem builtin_append(x y:V)(t t':TypeId):jy T .append [t,t'] [x,y] k=zou T (T.td t) (T.td t') x y k:=by
 unfold zou;simp only[jy];cases T.td t<;>(try rfl)<;>cases T.td t'<;>rfl
@[go_sem]theorem app2_sl(e e':TypeId)(x y:V):zou T (.slice e) (.slice e') x y k=wh T e x y k:=rfl
end mem
def nav:List Nat→Code→Code
 | [],c=>c
 |0::p,.seq a _=>nav p a
 |_::p,.seq _ b=>nav p b
 |0::p,.cond _ a _=>nav p a
 |_::p,.cond _ _ b=>nav p b
 |_::p,.block _ b=>nav p b
 |_::p,.loop b=>nav p b
 |_::p,.scope b=>nav p b
 |0::p,.rangeFunc _ _ a _=>nav p a
 |_::p,.rangeFunc _ _ _ b=>nav p b
 |_,c=>c
def xik(fn:Func):Code:=match fn.body with|some c=>c|none=> .skip
def zdb:Code→Option (List SO×Option Nat)
 | .region id ops d=>some (comp ops,match d with|true=>some id|false=>none)
 |_=>none
section run
variable (ih:Ih) (T:Tab) (rnd:Bool) (n:Nat) (k:List Item) (st:St)
@[congr]theorem runK_congr(items:List Item){st st':St}(h:st=st'):runK ih T rnd n items st=runK ih T rnd n items st':=by rw[h]
@[go_sem↓]theorem run_nil:runK ih T rnd (n+1) [] st=je T rnd st none:=rfl
@[go_sem↓]theorem run_skip:runK ih T rnd (n+1) (.code .skip::k) st=runK ih T rnd n k st:=rfl
@[go_sem↓]theorem run_label(l:Nat):runK ih T rnd (n+1) (.code (.label l)::k) st=runK ih T rnd n k st:=rfl
@[go_sem↓]theorem run_ret:runK ih T rnd (n+1) (.code .ret::k) st=je T rnd st (some .ret):=rfl
@[go_sem↓]theorem run_seq(a b:Code):runK ih T rnd (n+1) (.code (.seq a b)::k) st=runK ih T rnd n (.code a:: .code b::k) st:=rfl
def asB{α:Type}(v:V)(x y:Option α):Option α:=match v with| .bool b=>br b x y|_=>none
@[congr]theorem asB_congr{α:Type}{v v':V}(x y:Option α)(h:v=v'):asB v x y=asB v' x y:=by rw[h]
@[go_sem↓]theorem asB_bool{α:Type}(b:Bool)(x y:Option α):asB (.bool b) x y=br b x y:=rfl
@[go_sem↓]theorem run_cond(c:Operand)(a b:Code):runK ih T rnd (n+1) (.code (.cond c a b)::k) st=asB (st.eval c) (runK ih T rnd n (.code a::k) st) (runK ih T rnd n (.code b::k) st):=by
 simp only[runK,asBool,asB];cases st.eval c<;>rfl
@[go_sem↓]theorem run_block(id:Nat)(b:Code):runK ih T rnd (n+1) (.code (.block id b)::k) st=runK ih T rnd n (.code b:: .inBlock id::k) st:=rfl
@[go_sem↓]theorem run_scope(b:Code):runK ih T rnd (n+1) (.code (.scope b)::k) st=runK ih T rnd n (.code b:: .inScope b::k) st:=rfl
@[go_sem↓]theorem run_loop(b:Code):runK ih T rnd (n+1) (.code (.loop b)::k) st=zn (jn T st b) fun st=>ih.loop rnd (.code (.loop b)::k) st:=by
 simp only[runK,zn];cases jn T st b<;>rfl
@[go_sem↓]theorem run_inLoop(b:Code):runK ih T rnd (n+1) (.inLoop b::k) st=zn (jn T st b) fun st=>ih.loop rnd (.code (.loop b)::k) st:=by
 simp only[runK,zn];cases jn T st b<;>rfl
@[go_sem↓]theorem run_inBlock(id:Nat):runK ih T rnd (n+1) (.inBlock id::k) st=runK ih T rnd n k st:=rfl
@[go_sem↓]theorem run_begin:runK ih T rnd (n+1) (.beginRound::k) st=runK ih T rnd n k st:=rfl
def zdv(o:Option (List Item))(id:Nat):Option Out:=match o with|some k'=>runK ih T rnd n k' st|none=>je T rnd st (some (.exit id))
@[congr]theorem exitK_congr{o o':Option (List Item)}(id:Nat)(h:o=o'):zdv ih T rnd n st o id=zdv ih T rnd n st o' id:=by rw[h]
@[go_sem↓]theorem exitK_s(id:Nat):zdv ih T rnd n st (some k) id=runK ih T rnd n k st:=rfl
@[go_sem↓]theorem exitK_n(id:Nat):zdv ih T rnd n st none id=je T rnd st (some (.exit id)):=rfl
@[go_sem↓]theorem run_exit(id:Nat):runK ih T rnd (n+1) (.code (.exit id)::k) st=zdv ih T rnd n st (exitTo id k) id:=by
 simp only[runK,zdv];cases exitTo id k<;>rfl
@[go_sem]theorem exitTo_nil(id:Nat):exitTo id []=none:=rfl
@[go_sem]theorem exitTo_hit(id:Nat):exitTo id (.inBlock id::k)=some k:=by simp[exitTo]
@[go_sem]theorem exitTo_miss(id id':Nat)(h:(id'==id)=false):exitTo id (.inBlock id'::k)=exitTo id k:=by
 have:¬id'=id:=by simpa using h
 simp[exitTo,h,this]
@[go_sem]theorem exitTo_code(id:Nat)(c:Code):exitTo id (.code c::k)=exitTo id k:=by simp[exitTo]
@[go_sem]theorem exitTo_loop(id:Nat)(c:Code):exitTo id (.inLoop c::k)=exitTo id k:=by simp[exitTo]
theorem yrv{r:Code}{os:List SO}(h:zdb r=some (os,none)):runK ih T rnd (n+1) (.code r::k) st=zbd ih T os none st fun st=>runK ih T rnd n k st:=by
 cases r<;>simp only[zdb]at h<;>try cases h
 rename_i id ops d;cases d with
 |true=>simp at h
 |false=>
  simp only[Option.some.injEq,Prod.mk.injEq,and_true]at h;subst h;simp only[runK,zpu]
theorem yru{r:Code}{os:List SO}{id f:Nat}{ps:List (Nat×Nat)}(h:zdb r=some (os,some id))(hp:T.pairs f id=ps)(nt fp:Nat)(env:Den.Env)(H:zj)(Fz:Nat)(S:xb):
  runK ih T rnd (n+1) (.code r::k) ⟨f,nt,fp,env,H,Fz,S⟩=zbd ih T os (some ps) ⟨f,nt,fp,env,H,Fz,S⟩ fun st=>runK ih T rnd n k st:=by
 cases r<;>simp only[zdb]at h<;>try cases h
 rename_i id ops d;cases d with
 |false=>simp at h
 |true=>
  simp only[Option.some.injEq,Prod.mk.injEq]at h;obtain⟨rfl,rfl⟩:=h;subst hp;simp only[runK,zpu]
theorem yrw{r c:Code}(h:r=c):runK ih T rnd n (.code r::k) st=runK ih T rnd n (.code c::k) st:=by rw[h]
end run
section fin
variable (T:Tab)
def zbn(by_:Bool)(vs:List V)(H:zj)(Fz:Nat)(S:xb):Option Out:=match by_ with
 |true=>some (.ret (wv vs),H,Fz,S)
 |false=>(frzP T 8 (wv vs) .ret).go none H Fz S ⟨0,0,0,false⟩ fun v' _ _ _ _=>some (.ret v',[],0,S)
@[go_sem↓]theorem finE_t(vs:List V)(H:zj)(Fz:Nat)(S:xb):zbn T true vs H Fz S=some (.ret (wv vs),H,Fz,S):=rfl
@[go_sem↓]theorem finE_f(vs:List V)(H:zj)(Fz:Nat)(S:xb):zbn T false vs H Fz S=(frzP T 8 (wv vs) .ret).go none H Fz S ⟨0,0,0,false⟩ fun v' _ _ _ _=>some (.ret v',[],0,S):=rfl
@[go_sem]theorem outV_0:wv []= .tup []:=rfl
@[go_sem]theorem outV_1(v:V):wv [v]=v:=rfl
@[go_sem]theorem outV_2(u v:V)(r:List V):wv (u::v::r)= .tup (u::v::r):=rfl
theorem xan{f:Nat}{F:Func}{rs:List ResultVar}{b:Bool}(h:T.fn f=some F)(hr:F.results.toList=rs)(hb:T.byref f=b)(nt fp:Nat)(env:Den.Env)(H:zj)(Fz:Nat)(S:xb):
  je T false ⟨f,nt,fp,env,H,Fz,S⟩ (some .ret)=resultsK T ⟨f,nt,fp,env,H,Fz,S⟩ rs [] fun vs=>need (!z9 vs) (zbn T b vs H Fz S):=by
 subst hr;subst hb;simp only[je,zdg,h,zbn];congr 1<;>(funext vs;congr 1<;>(cases T.byref f<;>rfl))
theorem xao{f:Nat}{F:Func}{rs:List ResultVar}{b:Bool}(h:T.fn f=some F)(hr:F.results.toList=rs)(hb:T.byref f=b)(nt fp:Nat)(env:Den.Env)(H:zj)(Fz:Nat)(S:xb):
  je T false ⟨f,nt,fp,env,H,Fz,S⟩ none=resultsK T ⟨f,nt,fp,env,H,Fz,S⟩ rs [] fun vs=>need (!z9 vs) (zbn T b vs H Fz S):=by
 subst hr;subst hb;simp only[je,zdg,h,zbn];congr 1<;>(funext vs;congr 1<;>(cases T.byref f<;>rfl))
@[go_sem↓]theorem finK_round(st:St)(j:Option Code):je T true st j=some (.round j,st.H,st.Fz,st.S):=rfl
variable (st:St) (acc:List V) (k:List V→Option Out)
@[go_sem↓]theorem results_nil:resultsK T st [] acc k=k acc:=rfl
@[go_sem↓]theorem results_tmp(t:Nat)(rs:List ResultVar)(f nt fp:Nat)(env:Den.Env)(H:zj)(Fz:Nat)(S:xb):resultsK T ⟨f,nt,fp,env,H,Fz,S⟩ (.tmp t::rs) acc k=resultsK T ⟨f,nt,fp,env,H,Fz,S⟩ rs (acc++ [xx env t]) k:=rfl
@[go_sem↓]theorem results_cell(a:Nat)(t:TypeId)(rs:List ResultVar)(f nt fp:Nat)(env:Den.Env)(H:zj)(Fz:Nat)(S:xb):resultsK T ⟨f,nt,fp,env,H,Fz,S⟩ (.cell a t::rs) acc k=
  (j9 T t (xx env a) .ret).go none H Fz S ⟨0,0,0,false⟩ fun v _ _ _ _=>resultsK T ⟨f,nt,fp,env,H,Fz,S⟩ rs (acc++ [v]) k:=rfl
variable (n:Nat) (kk:V→Prog) (fr:V→(V→Prog)→Prog) (kl:List V→Prog)
@[go_sem]theorem frzL_nil:frzLP fr [] kl=kl []:=rfl
@[go_sem]theorem frzL_cons(v:V)(r:List V):frzLP fr (v::r) kl=fr v fun v'=>frzLP fr r fun r'=>kl (v'::r'):=rfl
@[go_sem]theorem frz_int(kd:IntKind)(x:Int):frzP T (n+1) (.int kd x) kk=kk (.int kd x):=rfl
@[go_sem]theorem frz_bool(x:Bool):frzP T (n+1) (.bool x) kk=kk (.bool x):=rfl
@[go_sem]theorem frz_str(x:List UInt8):frzP T (n+1) (.str x) kk=kk (.str x):=rfl
@[go_sem]theorem frz_sl(b:Bool)(z:Nat)(l:List V):frzP T (n+1) (.sl b z l) kk=kk (.sl b z l):=rfl
@[go_sem]theorem frz_agg(cs:List V):frzP T (n+1) (.agg cs) kk=frzLP (frzP T n) cs fun cs'=>kk (.agg cs'):=rfl
@[go_sem]theorem frz_tup(cs:List V):frzP T (n+1) (.tup cs) kk=frzLP (frzP T n) cs fun cs'=>kk (.tup cs'):=rfl
@[go_sem]theorem frz_fn(f:Nat)(cs:List V):frzP T (n+1) (.fn f cs) kk=frzLP (frzP T n) cs fun cs'=>kk (.fn f cs'):=rfl
@[go_sem]theorem frz_ref(id:Nat):frzP T (n+1) (.ref id) kk=wa T (frzP T n) id fun z l=>kk (.sl true z l):=rfl
@[go_sem]theorem frz_sub(id a b:Nat):frzP T (n+1) (.sub id a b) kk=wa T (frzP T n) id fun z l=>kk (.sl true z ((l.drop a).take b)):=rfl
@[go_sem]theorem frz_ptr(id i j:Nat):frzP T (n+1) (.ptr id i j) kk=wa T (frzP T n) id fun z l=>kk (.pp z l i j):=rfl
def znd(id:Nat)(kr:Nat→List V→Prog):Row→Prog
 | .cells b fl ty l=>(match fl with
   |true=>optP (T.ti ty) fun i=> .frz id (kr i.size l)
   |false=>frzLP fr l fun l'=>optP (T.ti ty) fun i=> .set id (.cells b true ty l') (.frz id (kr i.size l')))
 |_=> .fail
@[go_sem]theorem frzRow_eq(id:Nat)(kr:Nat→List V→Prog):wa T fr id kr= .get id fun r=>znd T fr id kr r:=by
 unfold wa
 congr 1<;>(funext r;cases r with
  |cells b fl ty l=>cases fl<;>rfl
  |_=>rfl)
@[go_sem]theorem frzRow_t(id:Nat)(kr:Nat→List V→Prog)(b:Bool)(ty:TypeId)(l:List V):znd T fr id kr (.cells b true ty l)=optP (T.ti ty) fun i=> .frz id (kr i.size l):=rfl
@[go_sem]theorem frzRow_f(id:Nat)(kr:Nat→List V→Prog)(b:Bool)(ty:TypeId)(l:List V):znd T fr id kr (.cells b false ty l)=frzLP fr l fun l'=>optP (T.ti ty) fun i=> .set id (.cells b true ty l') (.frz id (kr i.size l')):=rfl
end fin
section call
variable (T:Tab)
def zb0(o:Option Out):Option (V×zj×Nat×xb):=match o with
 |some (.ret v,H',Fz',S')=>some (v,H',Fz',S')
 |_=>none
@[go_sem]theorem retK_s(v:V)(H:zj)(Fz:Nat)(S:xb):zb0 (some (.ret v,H,Fz,S))=some (v,H,Fz,S):=rfl
@[go_sem]theorem retK_need(b:Bool)(o:Option Out):zb0 (need b o)=need b (zb0 o):=by cases b<;>rfl
theorem enter{f:Nat}{F:Func}{c:Code}{nt:Nat}(h:T.fn f=some F)(hb:F.body=some c)(hn:F.ntmps=nt)(args:List V)(H:zj)(Fz:Nat)(S:xb):
  (zu T).call f args H Fz S=need (decide (args.length≤nt)) (zb0 (runK (zu T) T false qk [.code c] ⟨f,nt,H.length,params 0 args,H,Fz,S⟩)):=by
 rw[yxe];subst hn;simp only[xp,h,hb,zft];congr 1
theorem zx(rnd:Bool)(b:Code)(k:List Item)(st:St):(zu T).loop rnd (.code (.loop b)::k) st=runK (zu T) T rnd qk (.code b:: .inLoop b::k) st:=by
 rw[yxd];rfl
attribute [go_sem] params qk
variable (ih:Ih) (f:Nat) (args:List V) (k:V→Prog)
def zn4(ih:Ih)(T:Tab)(f:Nat)(args:List V)(k:V→Prog):Prog:=
 withStk (z9 args) fun S back'=>optP (ih.call f args [] 0 S) fun(v,_,_,S')=>back' S'<|toP (qu T f v fun v=>some (k v))
@[congr]theorem callP_congr{args args':List V}(h:args=args'):callP ih T f args k=callP ih T f args' k:=by rw[h]
@[go_sem]theorem callP_n(h:T.byref f=false)(h':T.prim f=none):callP ih T f args k=stowLP T args fun args=>zn4 ih T f args k:=by
 simp only[callP,h,h'];rfl
def you(T:Tab)(f:Nat)(k:V→Prog):V×zj×Nat×xb→Prog
 |(v,_,_,[])=>toP (qu T f v fun v=>some (k v))
 |_=> .fail
@[go_sem↓]theorem aftS_n(v:V)(H:zj)(Fz:Nat):you T f k (v,H,Fz,[])=toP (qu T f v fun v=>some (k v)):=rfl
@[go_sem]theorem callS_n(h:z9 args=false):zn4 ih T f args k=optP (ih.call f args [] 0 []) (you T f k):=by
 simp only[zn4,h,withStk];congr 1;funext r;obtain⟨v,H,Fz,S⟩:=r;cases S<;>rfl
theorem zek{f:Nat}{F:Func}{α:Type}(h:T.fn f=some F)(hr:F.resultTypes.toList= [])(v:V)(k:V→Option α):qu T f v k=k v:=by
 unfold qu;rw[h];simp only[hr]
theorem zh{f:Nat}{F:Func}{α:Type}{t:TypeId}(h:T.fn f=some F)(hr:F.resultTypes.toList= [t])(v:V)(k:V→Option α):qu T f v k=shape T 6 t v k:=by
 unfold qu;rw[h];simp only[hr];rfl
theorem zab{f:Nat}{F:Func}{α:Type}{t u:TypeId}{ts:List TypeId}(h:T.fn f=some F)(hr:F.resultTypes.toList=t::u::ts)(v:V)(k:V→Option α):
  qu T f v k=zaj v fun vs=>need (vs.length==(t::u::ts).length) (shParts (shape T 6) (t::u::ts) vs [] fun r=>k (.tup r)):=by
 unfold qu;rw[h];simp only[hr,xe];rfl
end call
section gc
theorem yx7{T:Tab}{f:Nat}{b:Code}{ks:List Nat}(h:T.keep f (keyOf b)=some ks)(nt fp:Nat)(env:Den.Env)(H:zj)(Fz:Nat)(S:xb):jn T ⟨f,nt,fp,env,H,Fz,S⟩ b=gc ks ⟨f,nt,fp,env,H,Fz,S⟩:=by
 simp only[jn,h]
mutual
theorem ylk(g:Nat→Nat):∀(v:V),idsV v= []→xz g v=v
 | .undef,_=>rfl| .bool _,_=>rfl| .int _ _,_=>rfl| .flt _ _,_=>rfl| .cpl _ _ _,_=>rfl| .str _,_=>rfl
 | .nilp,_=>rfl| .nilm,_=>rfl| .nilf,_=>rfl| .nili,_=>rfl| .sl _ _ _,_=>rfl| .pp _ _ _ _,_=>rfl
 | .ref _,h=>by simp[idsV]at h
 | .sub _ _ _,h=>by simp[idsV]at h
 | .ptr _ _ _,h=>by simp[idsV]at h
 | .map _,h=>by simp[idsV]at h
 | .it _,h=>by simp[idsV]at h
 | .glob _ _,_=>rfl
 | .fn f c,h=>by simp only[xz,ze1 g c (by simpa[idsV]using h)]
 | .yld _,_=>rfl
 | .iface t v,h=>by simp only[xz,ylk g v (by simpa[idsV]using h)]
 | .agg cs,h=>by simp only[xz,ze1 g cs (by simpa[idsV]using h)]
 | .tup cs,h=>by simp only[xz,ze1 g cs (by simpa[idsV]using h)]
theorem ze1(g:Nat→Nat):∀(l:List V),zi l= []→x9 g l=l
 | [],_=>rfl
 |v::r,h=>by
  simp only[zi,List.append_eq_nil_iff]at h;simp only[x9,ylk g v h.1,ze1 g r h.2]
end
end gc
attribute [go_sem] List.map_cons List.map_nil List.toList_toArray List.length_cons List.length_nil List.getElem?_cons_zero List.getElem?_cons_succ List.cons_append List.nil_append List.append_nil
 List.take_succ_cons List.take_zero List.drop_zero List.drop_succ_cons List.take_nil List.drop_nil List.getElem?_nil List.set_cons_zero List.set_cons_succ List.zip_cons_cons List.zip_nil_left List.all_cons List.all_nil
 List.isEmpty_nil List.isEmpty_cons List.replicate_succ List.replicate_zero List.length_append List.length_map List.length_set
 Bool.and_true Bool.true_and Bool.and_false Bool.false_and Bool.not_true Bool.not_false Bool.or_true Bool.true_or Bool.or_false Bool.false_or beq_self_eq_true decide_true decide_false Bool.and_self Bool.or_self
 Option.map_some Option.map_none cond_true cond_false Nat.add_zero Nat.zero_add Nat.or_zero Nat.zero_or Nat.zero_testBit Bool.not_not
 Nat.zero_mul Nat.mul_one Nat.one_mul Int.toNat_natCast Bool.cond_true_right Bool.cond_false_left Bool.cond_false_right Bool.cond_true_left bit ne_eq not_true_eq_false not_false_eq_true and_true true_and and_self
attribute [go_sem] zd2 zaf zcb zkq zb1 FP.apart List.reverse_cons List.reverse_nil List.reverse_append
@[go_sem]theorem beq_bt(b:Bool):(b==true)=b:=by cases b<;>rfl
@[go_sem]theorem beq_bf(b:Bool):(b==false)= !b:=by cases b<;>rfl
@[go_sem]theorem setCells_n(cs:List V):xl cs 0 []=cs:=by simp[xl]
@[go_sem]theorem setCells_c(c:V)(cs:List V)(x:V)(xs:List V):xl (c::cs) 0 (x::xs)=x::xl cs 0 xs:=by simp[xl,Nat.add_comm]
@[go_sem]theorem setCells_j(c:V)(cs:List V)(j:Nat)(xs:List V):xl (c::cs) (j+1) xs=c::xl cs j xs:=by simp[xl,Nat.add_right_comm]
@[go_sem]theorem stowLP_frz(T:Tab)(l:List V)(k:List V→Prog)(h:pureL l=false):stowLP T l k=frzLP (frzP T 8) l k:=by simp[stowLP,h,zb9]
section ops
variable {α:Type} (ih:Ih) (T:Tab) (raw:Bool) (ev:Operand→V)
def zfs(T:Tab)(e:TypeId)(n:Nat)(idx:List Nat)(vs:List V):Prog:=
 needP (decide (T.size e≠0∧n*T.size e≤65536)&&zg (T.size e) (T.zero e))<|
  optP (jo (T.size e) (idx.zip vs) (List.replicate n (T.zero e))) fun l=>newP (.cells false (pureL l) e l) fun id=> .ret (.ref id)
def zod(T:Tab)(raw:Bool)(d:TD)(n:Nat)(idx:List Nat)(vs:List V):Prog:=match d with
 | .slice e=>br raw (zfs T e n idx vs) (stowLP T vs fun vs=>zfs T e n idx vs)
 |_=> .fail
@[go_sem]theorem opQ_buildSlice(t:TypeId)(n:Nat)(ps:Array (Nat×Operand)):yh ih T raw ev (.buildSlice t n ps)=zod T raw (T.td t) n (ps.toList.map fun p=>p.1) (ps.toList.map fun p=>ev p.2):=by
 unfold zod;show(match T.td t with| .slice e=>_|_=>_)=_;cases T.td t<;>(try rfl)<;>cases raw<;>rfl
@[go_sem]theorem bslP_s(e:TypeId)(n:Nat)(idx:List Nat)(vs:List V):zod T raw (.slice e) n idx vs=br raw (zfs T e n idx vs) (stowLP T vs fun vs=>zfs T e n idx vs):=rfl
@[go_sem]theorem bslF_eq(e:TypeId)(n:Nat)(idx:List Nat)(vs:List V):zfs T e n idx vs=needP (decide (T.size e≠0∧n*T.size e≤65536)&&zg (T.size e) (T.zero e))
  (optP (jo (T.size e) (idx.zip vs) (List.replicate n (T.zero e))) fun l=>newP (.cells false (pureL l) e l) fun id=> .ret (.ref id)):=rfl
@[go_sem]theorem fillEls_nil(n:Nat)(l:List V):jo n [] l=some l:=rfl
def ifS{β:Type}(b:Bool)(o:Option β):Option β:=match b with|true=>o|false=>none
@[congr]theorem ifS_congr{β:Type}{b b':Bool}(o:Option β)(h:b=b'):ifS b o=ifS b' o:=by rw[h]
@[go_sem↓]theorem ifS_t{β:Type}(o:Option β):ifS true o=o:=rfl
@[go_sem]theorem fillEls_cons(n i:Nat)(v:V)(r:List (Nat×V))(l:List V):jo n ((i,v)::r) l=ifS (zg n v&&decide (i<l.length)) (jo n r (l.set i v)):=by
 simp only[jo,ifS,yon];cases (zg n v&&decide (i<l.length))<;>rfl
def zeg(T:Tab)(d:TD)(x:V)(lo hi:Option V)(k:V→Prog):Prog:=
 match d,x with
 | .string,.str s=>yd hi s.length fun h=>yd lo 0 fun l=>needP (decide (l≤h∧h≤s.length)) (k (.str ((s.take h).drop l)))
 | .slice e,.sl nn sz s=>yd hi s.length fun h=>yd lo 0 fun l=>needP (decide (l≤h∧h≤s.length)&&((sz==T.size e)|| !nn)) (k (.sl nn sz ((s.take h).drop l)))
 | .slice e,.ref id=> .get id (zaa fun _ ety s=>yd hi s.length fun h=>yd lo 0 fun l=>needP (decide (l≤h∧h≤s.length)&&(T.size ety==T.size e)) (k (.sub id l (h- l))))
 | .array n e,.glob g 0=>(match lo,hi with
  |none,none=>ze9 T n e g k
  |_,_=> .fail)
 | .slice e,.sub id a b=> .get id (zaa fun _ ety s=>yd hi b fun h=>yd lo 0 fun l=>needP ((decide (l≤h∧h≤b)||decide (l≤h∧a+h≤s.length))&&(T.size ety==T.size e)) (k (.sub id (a+l) (h- l))))
 |_,_=> .fail
@[go_sem]theorem slice_eq(t:TypeId)(x:V)(lo hi:Option V)(k:V→Prog):zba T t x lo hi k=zeg T (T.td t) x lo hi k:=by
 unfold zba zeg;cases T.td t<;>(try rfl)<;>cases x<;>(try rfl)
 ·simp only[xe]
 ·simp only[xe];congr 1<;>(funext r;cases r<;>rfl)
 ·simp only[xe];congr 1<;>(funext r;cases r<;>rfl)
 all_goals (rename_i g j;cases j<;>rfl)
@[go_sem]theorem sli_glob(n e g:Nat)(k:V→Prog):zeg T (.array n e) (.glob g 0) none none k=ze9 T n e g k:=rfl
@[go_sem]theorem sli_sl(e:TypeId)(nn:Bool)(sz:Nat)(s:List V)(lo hi:Option V)(k:V→Prog):zeg T (.slice e) (.sl nn sz s) lo hi k=yd hi s.length fun h=>yd lo 0 fun l=>needP (decide (l≤h∧h≤s.length)&&((sz==T.size e)|| !nn)) (k (.sl nn sz ((s.take h).drop l))):=rfl
@[go_sem]theorem sli_ref(e:TypeId)(id:Nat)(lo hi:Option V)(k:V→Prog):zeg T (.slice e) (.ref id) lo hi k= .get id (zaa fun _ ety s=>yd hi s.length fun h=>yd lo 0 fun l=>needP (decide (l≤h∧h≤s.length)&&(T.size ety==T.size e)) (k (.sub id l (h- l)))):=rfl
@[go_sem]theorem bd_n(d:Nat)(k:Nat→Prog):yd none d k=k d:=rfl
@[go_sem]theorem bd_s(i:Int)(d:Nat)(k:Nat→Prog):yd (some (.int .i64 i)) d k=needP (decide (0≤i)) (k i.toNat):=by
 simp only[yd,yoq,yu4,zge,zcv]
@[congr]theorem bdP_congr{o o':Option V}{d d':Nat}(k:Nat→Prog)(h:o=o')(h':d=d'):yd o d k=yd o' d' k:=by rw[h,h']
def zhf(T:Tab)(d:TD)(n m:V):Prog:=match d with
 | .slice e=>toP (ug .i64 n fun n=>ug .i64 m fun m=>
   some (needP (decide (0≤n∧n≤m∧m<maxRow∧T.bytes e≤4096∧T.size e≠0)&&zg (T.size e) (T.zero e))
    (newP (.cells false (pureV (T.zero e)) e (List.replicate n.toNat (T.zero e))) fun id=> .ret (.ref id))))
 |_=> .fail
@[go_sem]theorem opQ_makeSlice(t:TypeId)(l c:Operand):yh ih T raw ev (.makeSlice t l c)=zhf T (T.td t) (ev l) (ev c):=by
 unfold zhf;show(match T.td t with| .slice e=>_|_=>_)=_;cases T.td t<;>rfl
@[go_sem]theorem mkSl_s(e:TypeId)(n m:Int):zhf T (.slice e) (.int .i64 n) (.int .i64 m)=needP (decide (0≤n∧n≤m∧m<maxRow∧T.bytes e≤4096∧T.size e≠0)&&zg (T.size e) (T.zero e))
    (newP (.cells false (pureV (T.zero e)) e (List.replicate n.toNat (T.zero e))) fun id=> .ret (.ref id)):=by
 simp only[zhf,yoq,zcv]
def ixP(T:Tab)(x:V)(d:TD)(n:Int):Prog:=match x,d with
  | .agg cs,.array len e=>needP (decide (0≤n∧n<len)) (br (T.isAgg e) (needP (decide (n.toNat*T.size e+T.size e≤cs.length)) (.ret (.agg ((cs.drop (n.toNat*T.size e)).take (T.size e)))))
    (needP (T.size e==1) (optP cs[n.toNat]? .ret)))
  | .str s,.string=>needP (decide (0≤n)) (optP s[n.toNat]? fun c=> .ret (.int .u8 c.toNat))
  |_,_=> .fail
theorem yum(t:TypeId)(x i:Operand):yh ih T raw ev (.index t x i)=toP (asInt (ev i) fun _ n=>some (ixP T (ev x) (T.td t) n)):=by
 rw[yun];unfold asInt ixP;cases ev i<;>(try rfl);rename_i kd n;simp only;cases ev x<;>(try rfl)<;>cases T.td t<;>(try rfl)
 all_goals simp only[zge,zcv]
 all_goals congr 1
 ·rename_i s
  cases s[n.toNat]? <;>rfl
 ·rename_i e
  cases T.isAgg e<;>simp only[br,zge,zcv,zcw,xe,zft,zb7]
@[go_sem]theorem ix_str(s:List UInt8)(n:Int):ixP T (.str s) .string n=needP (decide (0≤n)) (optP s[n.toNat]? fun c=> .ret (.int .u8 c.toNat)):=rfl
attribute [go_sem] yum
def lkP(T:Tab)(d:TD)(m x:V)(ok:Bool):Prog:=match d with
 | .map kt e=>needP (keyOk T 3 kt x)<|(match m with
   | .nilm=> .ret (kf ok (T.zero e) false)
   | .map id=> .get id fun row=>(match row with
    | .map es=>optP (mapGet (eqT T kp kt) es x) fun o=>(match o with
     |some v=>toP (shape T shD e v fun v=>some (.ret (kf ok v true)))
     |none=> .ret (kf ok (T.zero e) false))
    |_=> .fail)
   |_=> .fail)
 |_=> .fail
@[go_sem]theorem opQ_lookup(t:TypeId)(m x:Operand)(ok:Bool):yh ih T raw ev (.lookup t m x ok)=lkP T (T.td t) (ev m) (ev x) ok:=by
 unfold lkP;show(match T.td t with| .map kt e=>_|_=>_)=_;cases T.td t<;>rfl
def zez(k:List (V×V)→Prog):Row→Prog
 | .map es=>k es
 |_=> .fail
@[go_sem]theorem mapRowP_m(k:List (V×V)→Prog)(es:List (V×V)):zez k (.map es)=k es:=rfl
def znf(T:Tab)(e:TypeId)(ok:Bool):Option V→Prog
 |some v=>toP (shape T 6 e v fun v=>some (.ret (kf ok v true)))
 |none=> .ret (kf ok (T.zero e) false)
@[go_sem]theorem foundP_s(e:TypeId)(ok:Bool)(v:V):znf T e ok (some v)=toP (shape T 6 e v fun v=>some (.ret (kf ok v true))):=rfl
@[go_sem]theorem foundP_n(e:TypeId)(ok:Bool):znf T e ok none= .ret (kf ok (T.zero e) false):=rfl
@[go_sem]theorem lk_map(kt e:TypeId)(id:Nat)(x:V)(ok:Bool):lkP T (.map kt e) (.map id) x ok=needP (keyOk T 3 kt x) (.get id (zez fun es=>optP (mapGet (eqT T 5 kt) es x) (znf T e ok))):=by
 unfold lkP;simp only;congr 2<;>(funext row;cases row<;>(try rfl))
 all_goals (simp only[zez];congr 1<;>(funext o;cases o<;>rfl))
@[go_sem]theorem okV_f(v:V)(b:Bool):kf false v b=v:=rfl
def zkf(T:Tab)(d:TD)(m x y:V):Prog:=match m,d with
  | .map id,.map kt _=>vd T y fun y=>needP (!zm y&&(pureV x&&keyOk T 3 kt x)) (.get id (zez fun es=>optP (mapSet (eqT T 5 kt) es x y) fun es'=> .set id (.map es') (.ret .undef)))
  |_,_=> .fail
@[go_sem]theorem opQ_mapUpdate(t:TypeId)(m x y:Operand):yh ih T raw ev (.mapUpdate t m x y)=zkf T (T.td t) (ev m) (ev x) (ev y):=by
 unfold zkf;show(match ev m,T.td t with| .map id,.map kt _=>_|_,_=>_)=_;cases ev m<;>(try rfl)<;>cases T.td t<;>(try rfl)
 all_goals (simp only;congr 1<;>(funext y;congr 2<;>(funext row;cases row<;>rfl)))
@[go_sem]theorem upd_map(kt e:TypeId)(id:Nat)(x y:V):zkf T (.map kt e) (.map id) x y=vd T y fun y=>needP (!zm y&&(pureV x&&keyOk T 3 kt x)) (.get id (zez fun es=>optP (mapSet (eqT T 5 kt) es x y) fun es'=> .set id (.map es') (.ret .undef))):=rfl
end ops
@[go_sem]theorem testBit_eq(m n:Nat):m.testBit n=((1&&&(m>>>n)) !=0):=rfl
def gcK(ids:Option (List Nat))(fp:Nat)(o:Option (List Nat))(k:List Nat→St):Option St:=zn ids fun ids=>br (jm (ids.take fp) (List.range fp)) (some (k ids)) (zn o fun ids=>need (jm (ids.take fp) (List.range fp)) (some (k ids)))
def gcO(fp:Nat)(vs:List V)(H:zj):Option (List Nat):=need (Nat.ble fp H.length) (reach 10000 (zam (H.take fp)++zi vs) (List.range fp).reverse H)
@[congr]theorem gcK_congr{o o':Option (List Nat)}(fp:Nat)(q:Option (List Nat))(k:List Nat→St)(h:o=o'):gcK o fp q k=gcK o' fp q k:=by rw[h]
theorem yzx(ks:List Nat)(f nt fp:Nat)(env:Den.Env)(H:zj)(Fz:Nat)(S:xb):gc ks ⟨f,nt,fp,env,H,Fz,S⟩=
  gcK (reach 10000 (List.range fp++zi (ks.map (xx env))) [] H) fp (gcO fp (ks.map (xx env)) H) fun ids=>⟨f,nt,fp,ks.zip (x9 (idx ids) (ks.map (xx env))),xh (idx ids) (pick H ids),mask ids Fz 0,S⟩:=by
 simp only[gc,gcK,gcO,zn];cases reach 10000 (List.range fp++zi (ks.map (xx env))) [] H with
 |none=>rfl
 |some ids=>
  simp only[Option.bind_some];cases jm (ids.take fp) (List.range fp)with
  |true=>rfl
  |false=>
   simp only[br];cases Nat.ble fp H.length with
   |false=>rfl
   |true=>
    simp only[need];cases reach 10000 (zam (H.take fp)++zi (ks.map (xx env))) (List.range fp).reverse H with
    |none=>rfl
    |some ids2=>
     simp only[Option.bind_some]
     try (cases jm (ids2.take fp) (List.range fp)<;>rfl)
@[go_sem]theorem gcK_n(ids:List Nat)(fp:Nat)(q:Option (List Nat))(k:List Nat→St)(h:jm (ids.take fp) (List.range fp)=true):gcK (some ids) fp q k=some (k ids):=by simp[gcK,zn,h,br]
attribute [go_sem] yzx List.range_zero
@[go_sem]theorem eqNL_nil:jm [] []=true:=rfl
@[go_sem]theorem eqNL_cons(a b:Nat)(r s:List Nat):jm (a::r) (b::s)=((a==b)&&jm r s):=by simp only[jm,xe]
attribute [go_sem] List.range_succ
section r
variable (n id:Nat) (w seen:List Nat) (H:zj)
def zel(n id:Nat)(w seen:List Nat)(H:zj):Row→Option (List Nat)
 | .cells _ false _ l=>reach n (zi l++w) (id::seen) H
 |_=>reach n w (id::seen) H
@[go_sem]theorem reach_nil:reach (n+1) [] seen H=some seen.reverse:=rfl
@[go_sem]theorem reach_cons:reach (n+1) (id::w) seen H=br (seen.any fun x=>id==x) (reach n w seen H) (zn H[id]? fun r=>zel n id w seen H r):=by
 have e:seen.any (Nat.beq id)=seen.any fun x=>id==x:=by congr 1;funext x;exact xe id x
 simp only[reach,←e];cases seen.any (Nat.beq id)with
 |true=>rfl
 |false=>
  simp only[br,zn];cases H[id]? with
  |none=>rfl
  |some r=>cases r with
   |cells b f t l=>cases f<;>rfl
   |_=>rfl
@[go_sem]theorem reachR_t(b:Bool)(t:TypeId)(l:List V):zel n id w seen H (.cells b true t l)=reach n w (id::seen) H:=rfl
@[go_sem]theorem reachR_f(b:Bool)(t:TypeId)(l:List V):zel n id w seen H (.cells b false t l)=reach n (zi l++w) (id::seen) H:=rfl
@[go_sem]theorem reachR_m(es:List (V×V)):zel n id w seen H (.map es)=reach n w (id::seen) H:=rfl
@[go_sem]theorem reachR_s(s:List UInt8)(p:Nat):zel n id w seen H (.siter s p)=reach n w (id::seen) H:=rfl
attribute [go_sem] List.any_cons List.any_nil
@[go_sem]theorem idx_hit(x:Nat)(r:List Nat):idx (x::r) x=0:=by simp[idx]
@[go_sem]theorem idx_miss(x y:Nat)(r:List Nat)(h:(y==x)=false):idx (y::r) x=idx r x+1:=by
 have:Nat.beq y x=false:=by rw[xe];exact h
 simp[idx,this]
@[go_sem]theorem mapHL_nil(g:Nat→Nat):x9 g []= []:=rfl
@[go_sem]theorem mapHL_cons(g:Nat→Nat)(v:V)(r:List V):x9 g (v::r)=xz g v::x9 g r:=rfl
@[go_sem]theorem mapH_ptr(g:Nat→Nat)(x i j:Nat):xz g (.ptr x i j)= .ptr (g x) i j:=rfl
@[go_sem]theorem mapH_ref(g:Nat→Nat)(x:Nat):xz g (.ref x)= .ref (g x):=rfl
@[go_sem]theorem mapH_sub(g:Nat→Nat)(x i j:Nat):xz g (.sub x i j)= .sub (g x) i j:=rfl
@[go_sem]theorem mapH_map(g:Nat→Nat)(x:Nat):xz g (.map x)= .map (g x):=rfl
@[go_sem]theorem mapH_it(g:Nat→Nat)(x:Nat):xz g (.it x)= .it (g x):=rfl
@[go_sem]theorem mapH_int(g:Nat→Nat)(k:IntKind)(x:Int):xz g (.int k x)= .int k x:=rfl
@[go_sem]theorem mapH_bool(g:Nat→Nat)(x:Bool):xz g (.bool x)= .bool x:=rfl
@[go_sem]theorem mapH_str(g:Nat→Nat)(x:List UInt8):xz g (.str x)= .str x:=rfl
@[go_sem]theorem mapH_sl(g:Nat→Nat)(b:Bool)(z:Nat)(l:List V):xz g (.sl b z l)= .sl b z l:=rfl
@[go_sem]theorem mapH_pp(g:Nat→Nat)(z:Nat)(l:List V)(i j:Nat):xz g (.pp z l i j)= .pp z l i j:=rfl
@[go_sem]theorem mapH_agg(g:Nat→Nat)(cs:List V):xz g (.agg cs)= .agg (x9 g cs):=by simp only[xz]
@[go_sem]theorem mapH_tup(g:Nat→Nat)(cs:List V):xz g (.tup cs)= .tup (x9 g cs):=by simp only[xz]
@[go_sem]theorem mapH_fn(g:Nat→Nat)(f:Nat)(cs:List V):xz g (.fn f cs)= .fn f (x9 g cs):=by simp only[xz]
@[go_sem]theorem mapRows_nil(g:Nat→Nat):xh g []= []:=rfl
@[go_sem]theorem mapRows_cons(g:Nat→Nat)(r:Row)(rs:zj):xh g (r::rs)=qg g r::xh g rs:=rfl
@[go_sem]theorem mapRow_t(g:Nat→Nat)(b:Bool)(t:TypeId)(l:List V):qg g (.cells b true t l)= .cells b true t l:=rfl
@[go_sem]theorem mapRow_f(g:Nat→Nat)(b:Bool)(t:TypeId)(l:List V):qg g (.cells b false t l)= .cells b false t (x9 g l):=rfl
@[go_sem]theorem mapRow_m(g:Nat→Nat)(es:List (V×V)):qg g (.map es)= .map es:=rfl
@[go_sem]theorem mapRow_s(g:Nat→Nat)(s:List UInt8)(p:Nat):qg g (.siter s p)= .siter s p:=rfl
def zmg:Option Row→Row
 |some x=>x
 |none=> .dead
@[go_sem]theorem orDead_s(r:Row):zmg (some r)=r:=rfl
@[go_sem]theorem pick_nil:pick H []= []:=rfl
@[go_sem]theorem pick_cons(ids:List Nat):pick H (id::ids)=zmg H[id]? ::pick H ids:=by
 simp only[pick,zmg];cases H[id]? <;>rfl
@[go_sem]theorem mask_nil(Fz:Nat):mask [] Fz n=0:=rfl
@[go_sem]theorem mask_cons(ids:List Nat)(Fz:Nat):mask (id::ids) Fz n=cond (Fz.testBit id) (1<<<n) 0|||mask ids Fz (n+1):=rfl
end r
section eq
variable (T:Tab) (n:Nat) (t:TypeId)
def eqB(T:Tab)(n:Nat)(t:TypeId)(d:TD)(x y:V):Option Bool:=match d,x,y with
  | .bool,.bool a,.bool b=>some (a==b)
  | .int _,.int k a,.int k' b=>(match decide (k=k')with|true=>some (a==b)|false=>none)
  | .float _,.flt k a,.flt k' b=>(match decide (k=k')with|true=>some (Op.floatEq k a b)|false=>none)
  | .complex _,.cpl k a b,.cpl k' c d=>(match decide (k=k')with|true=>some (Op.floatEq k a c&&Op.floatEq k b d)|false=>none)
  | .string,.str a,.str b=>some (a==b)
  | .slice _,.ref _,.sl false _ _=>some false
  | .slice _,.sub _ _ _,.sl false _ _=>some false
  | .slice _,.sl a _ _,.sl false _ _=>some (!a)
  | .slice _,.sl false _ _,.sl b _ _=>some (!b)
  | .map _ _,.nilm,.nilm=>some true
  | .func,.nilf,.nilf=>some true
  | .func,.fn _ _,.nilf=>some false
  | .ptr _,.nilp,.nilp=>some true
  | .struct fs,.agg as,.agg bs=>(match T.ti t with
   |some i=>(match i.eqok with|true=>wu T (eqT T n) fs as bs|false=>none)
   |none=>none)
  | .array m e,.agg as,.agg bs=>(match T.ti t with
   |some i=>(match i.eqok with|true=>wg T (eqT T n) e m 0 as bs|false=>none)
   |none=>none)
  |_,_,_=>none
theorem xbf(x y:V):eqT T (n+1) t x y=eqB T n t (T.td t) x y:=by
 simp only[eqT,eqB];cases T.td t<;>cases x<;>cases y<;>(try rfl)<;>first|(rename_i b _ _ c _ _;cases b<;>cases c<;>rfl)|(rename_i b _ _;cases b<;>rfl)
attribute [go_sem] xbf
@[go_sem]theorem eqB_int(k kk:IntKind)(a b:Int):eqB T n t (.int kk) (.int k a) (.int k b)=some (a==b):=by simp[eqB]
@[go_sem]theorem eqB_str(a b:List UInt8):eqB T n t .string (.str a) (.str b)=some (a==b):=rfl
def okE(o:Option TI)(k:Option Bool):Option Bool:=match o with|some i=>(match i.eqok with|true=>k|false=>none)|none=>none
@[congr]theorem okE_congr{o o':Option TI}(k:Option Bool)(h:o=o'):okE o k=okE o' k:=by rw[h]
@[go_sem]theorem okE_s(td:TD)(a b:Nat)(z:V)(k:Option Bool):okE (some ⟨td,a,b,z,true⟩) k=k:=rfl
@[go_sem]theorem eqB_struct(fs:List (Nat×TypeId))(as bs:List V):eqB T n t (.struct fs) (.agg as) (.agg bs)=okE (T.ti t) (wu T (eqT T n) fs as bs):=by
 simp only[eqB,okE]
 first|done|(cases T.ti t with
 |none=>rfl
 |some i=>cases i.eqok<;>rfl)
@[go_sem]theorem eqB_array(m:Nat)(e:TypeId)(as bs:List V):eqB T n t (.array m e) (.agg as) (.agg bs)=okE (T.ti t) (wg T (eqT T n) e m 0 as bs):=by
 simp only[eqB,okE]
 first|done|(cases T.ti t with
 |none=>rfl
 |some i=>cases i.eqok<;>rfl)
variable (eq:TypeId→V→V→Option Bool)
@[go_sem]theorem eqFs_nil(xs ys:List V):wu T eq [] xs ys=some true:=rfl
def zan(agg:Bool)(T:Tab)(o:Nat)(t:TypeId)(cs:List V):Option V:=match agg with|true=>some (.agg ((cs.drop o).take (T.size t)))|false=>cs[o]?
@[go_sem]theorem partE_f(o:Nat)(cs:List V):zan false T o t cs=cs[o]? :=rfl
@[go_sem]theorem eqFs_cons(o:Nat)(fs:List (Nat×TypeId))(xs ys:List V):wu T eq ((o,t)::fs) xs ys=
  zn (zan (T.isAgg t) T o t xs) fun a=>zn (zan (T.isAgg t) T o t ys) fun b=>zn (eq t a b) fun r=>zn (wu T eq fs xs ys) fun s=>some (r&&s):=by
 simp only[wu];have e:∀cs:List V,(match T.isAgg t with|true=>some (V.agg ((cs.drop o).take (T.size t)))|false=>cs[o]?)=zan (T.isAgg t) T o t cs:=fun cs=>by unfold zan;cases T.isAgg t<;>rfl
 simp only[zn];unfold zan;cases T.isAgg t with
 |true=>simp only;cases eq t _ _ with
  |none=>rfl
  |some r=>cases wu T eq fs xs ys<;>rfl
 |false=>
  simp only;cases xs[o]? with
  |none=>rfl
  |some a=>cases ys[o]? with
   |none=>rfl
   |some b=>
    simp only;cases eq t a b with
    |none=>rfl
    |some r=>cases wu T eq fs xs ys<;>rfl
end eq
section cp
variable (T:Tab)
def znt{α:Type}(s d:TD)(x:V)(k:V→Option α):Option α:=
 match s,d,x with
 |_,.int kd,.int _ n=>k (.int kd (kd.wrap n))
 |_,.float kd,.int _ n=>k (.flt kd (kd.nearest n))
 |_,.int kd,.flt s b=>zn ((s.decode b).toInt .zero) fun n=>need (decide (kd.min≤n∧n≤kd.max)) (k (.int kd n))
 |_,.float kd,.flt s b=>(match decide (s=kd)with
  |true=>k (.flt kd b)
  |false=>(match s.decode b with
   | .nan _ _=>k (.flt kd (qn kd))
   | .infinity g=>k (.flt kd (kd.encode (.infinity g)))
   | .number g m e=>need (!(kd.decode (kd.encode (.number g m e))).isInfinity) (k (.flt kd (kd.encode (.number g m e))))))
 |_,.string,.str s=>k (.str s)
 |_,_,_=>none
@[go_sem]theorem convK_eq{α:Type}(s d:TypeId)(x:V)(k:V→Option α):zaz T s d x k=znt (T.td s) (T.td d) x k:=by
 unfold zaz znt;cases T.td d<;>(try rfl)<;>cases x<;>(try rfl)
@[go_sem]theorem conv_ii{α:Type}(s:TD)(ks kd:IntKind)(n:Int)(k:V→Option α):znt s (.int kd) (.int ks n) k=k (.int kd (kd.wrap n)):=rfl
end cp
theorem wrap64{n:Int}(h1: -9223372036854775808≤n)(h2:n≤9223372036854775807):IntKind.i64.wrap n=n:=by
 simp only[IntKind.wrap,IntKind.bits,IntKind.signed];have:(2:Int)^64=18446744073709551616:=by decide
 simp;omega
theorem xq{P:Nat→Prop}(n:Nat)(hend:P n)(hstep:∀i,i<n→P (i+1)→P i):∀i,i≤n→P i:=by
 intro i hi
 have key:∀k i,i+k=n→P i:=by
  intro k
  induction k with
  |zero=>
   intro i h;have:i=n:=by omega
   subst this;exact hend
  |succ k ih=>intro i h;exact hstep i (by omega) (ih (i+1) (by omega))
 exact key (n- i) i (by omega)
theorem zl{α:Type}{l:List α}{i:Nat}(h:i<l.length)(hb:l.length<4611686018427387904):decide ((i:Int)<(l.length:Int))=true∧decide (0≤(i:Int)∧(i:Int)<(l.length:Int))=true∧l[i]? =some l[i]∧IntKind.i64.wrap ((i:Int)+1)=((i+1:Nat):Int)∧l.drop i=l[i]::l.drop (i+1):=
 ⟨by simp;omega,by simp;omega,List.getElem?_eq_getElem h,by rw[wrap64]<;>omega,List.drop_eq_getElem_cons h⟩
theorem z8(n:Nat):decide ((n:Int)<(n:Int))=false:=by simp
attribute [go_sem] List.getElem?_map
@[go_sem]theorem zm4{α:Type}(f:α→V)(l:List α)(h:∀x,idsV (f x)= []):zi (l.map f)= []:=by
 induction l with
 |nil=>rfl
 |cons a l ih=>simp[zi,h a,ih]
def xj:List Int→Int
 | []=>0
 |x::l=>if x=0 then xj l else x
def wb(n a b:Int):Int:=cond (decide (n<a)||decide (b<n)) 3 0
theorem zeh(n a b:Int):wb n a b=if n<a∨b<n then 3 else 0:=by
 unfold wb;by_cases h:n<a<;>by_cases h':b<n<;>simp[h,h']
def uj{α:Type}(o:Option (List α))(id:Nat):V:=match o with|none=> .sl false 0 []|some l=> .ref id
def uv{α:Type}(f:α→V)(o:Option (List α))(t:TypeId):zj:=match o with|none=> []|some l=> [.cells false true t (l.map f)]
def j6{α:Type}(o:Option (List α))(l:List α):Option (List α):=match l with| []=>o|x::r=>some (o.getD []++x::r)
theorem yy{α:Type}(o:Option (List α))(l l':List α):j6 (j6 o l) l'=j6 o (l++l'):=by
 cases l with
 |nil=>rfl
 |cons x r=>cases l'<;>simp[j6]
def ki{α:Type}(o:Option (List α)):Nat:=match o with|none=>0|some l=>l.length
section
variable {α:Type}
@[go_sem]theorem v7(l:List α)(x:α):j6 (some l) [x]=some (l++ [x]):=rfl
@[go_sem]theorem v9(x:α):j6 none [x]=some [x]:=rfl
theorem yov(o:Option (List α)):j6 o []=o:=rfl
@[go_sem]theorem ji(id:Nat):uj (none:Option (List α)) id= .sl false 0 []:=rfl
@[go_sem]theorem qx(l:List α)(id:Nat):uj (some l) id= .ref id:=rfl
@[go_sem]theorem j0(f:α→V)(t:TypeId):uv f none t= []:=rfl
@[go_sem]theorem qq(f:α→V)(l:List α)(t:TypeId):uv f (some l) t= [.cells false true t (l.map f)]:=rfl
theorem yw(o:Option (List α))(l:List α):ki (j6 o l)=ki o+l.length:=by
 cases l<;>cases o<;>simp[ki,j6]
end
def yp{α:Type}(f:α→V)(y z:Nat)(o:Option (List α)):V:=match o with|none=> .sl false y []|some l=> .sl true z (l.map f)
@[go_sem]theorem acO_n{α:Type}(f:α→V)(y z:Nat):yp f y z none= .sl false y []:=rfl
@[go_sem]theorem acO_s{α:Type}(f:α→V)(y z:Nat)(l:List α):yp f y z (some l)= .sl true z (l.map f):=rfl
def yr(z:Nat)(l:List V):V:=match l with| []=> .sl false 0 []|x::r=> .sl true z (x::r)
theorem yj{α:Type}(f:α→V)(z:Nat)(l:List α):yp f 0 z (j6 none l)=yr z (l.map f):=by cases l<;>rfl
@[go_sem]theorem shape_slV{α:Type}(T:Tab)(n:Nat)(t e:TypeId)(z:Nat)(l:List V)(k:V→Option α):ju T n t (.slice e) (yr z l) k=need (T.size e==z||l.isEmpty) (k (.sl (!l.isEmpty) (T.size e) l)):=by
 cases l with
 |nil=>simp[yr,ju,v5,need]
 |cons x r=>
  simp only[yr,ju,v5,xe,List.isEmpty_cons,Bool.or_false,Bool.not_false,Bool.not_true];by_cases h:z=T.size e
  ·subst h;simp[need]
  ·have h1:(z==T.size e)=false:=by simpa using h
   have h2:(T.size e==z)=false:=by simpa using fun e'=>h (Eq.symm e')
   rw[h1,h2];rfl
theorem xw{n:Nat}(h:n<1000000):decide (n+1<maxRow)=true∧decide (1<maxRow)=true:=⟨decide_eq_true (by unfold maxRow;omega),decide_eq_true (by unfold maxRow;omega)⟩
end Go.Den
namespace Go.Den
section
variable (z:Nat) (l:List V)
theorem yri(h:l≠ []):yr z l= .sl true z l:=by cases l with|nil=>exact absurd rfl h|cons x r=>rfl
end
end Go.Den
namespace Go.Den
section
variable {α:Type} (T:Tab) (sh:TypeId→V→(V→Option α)→Option α) (kk:List V→Option α) (e:TypeId)
def zkr(agg:Bool)(m:Nat)(cs acc:List V):Option α:=match agg with
  |true=>sh e (.agg (cs.take (T.size e))) fun w=>asAgg w fun ws=>shElems T sh e m (cs.drop (T.size e)) (acc++ws) kk
  |false=>get cs 0 fun c=>sh e c fun w=>shElems T sh e m (cs.drop 1) (acc++ [w]) kk
@[go_sem]theorem shE_s(m:Nat)(cs acc:List V):shElems T sh e (m+1) cs acc kk=zkr T sh kk e (T.isAgg e) m cs acc:=by
 simp only[shElems,zkr];cases T.isAgg e<;>rfl
@[go_sem]theorem shE1_f(m:Nat)(c:V)(cs acc:List V):zkr T sh kk e false m (c::cs) acc=sh e c fun w=>shElems T sh e m cs (acc++ [w]) kk:=rfl
end
section
variable (T:Tab) (eq:TypeId→V→V→Option Bool) (e:TypeId)
@[go_sem]theorem eqEls_0(i:Nat)(xs ys:List V):wg T eq e 0 i xs ys=some true:=rfl
@[go_sem]theorem eqEls_s(m i:Nat)(xs ys:List V):wg T eq e (m+1) i xs ys=
  zn (zan (T.isAgg e) T (i*T.size e) e xs) fun a=>zn (zan (T.isAgg e) T (i*T.size e) e ys) fun b=>zn (eq e a b) fun r=>zn (wg T eq e m (i+1) xs ys) fun s=>some (r&&s):=by
 simp only[wg,zn];unfold zan;cases T.isAgg e with
 |true=>simp only;cases eq e _ _ with
  |none=>rfl
  |some r=>cases wg T eq e m (i+1) xs ys<;>rfl
 |false=>
  simp only;cases xs[i*T.size e]? with
  |none=>rfl
  |some a=>cases ys[i*T.size e]? with
   |none=>rfl
   |some b=>
    simp only;cases eq e a b with
    |none=>rfl
    |some r=>cases wg T eq e m (i+1) xs ys<;>rfl
end
section
variable (ih:Ih) (T:Tab) (raw:Bool) (ev:Operand→V)
def ysf(id:Nat):Row→Prog
 | .map es=>optP (zf4 es) fun x=> .set id .dead (newP (.miter x es.length false) fun id'=> .ret (.it id'))
 |_=> .fail
def zkw(d:TD)(v:V):Prog:=match d,v with| .string,.str s=>newP (.siter s 0) fun id=> .ret (.it id)| .map _ _,.map id=> .get id (ysf id)|_,_=> .fail
@[go_sem]theorem opQ_range(t:TypeId)(x:Operand):yh ih T raw ev (.range t x)=zkw (T.td t) (ev x):=by
 unfold zkw;show(match T.td t,ev x with| .string,.str s=>_| .map _ _,.map id=>_|_,_=>_)=_;cases T.td t<;>(try rfl)<;>cases ev x<;>rfl
@[go_sem]theorem rngP_s(s:List UInt8):zkw .string (.str s)=newP (.siter s 0) fun id=> .ret (.it id):=rfl
def zml(id:Nat):Row→Prog
 | .siter s p=>br (decide (p<s.length))
     (.set id (.siter s (p+(Utf8.decode ⟨s.toArray⟩ p).2)) (.ret (.tup [.bool true,.int .i64 p,.int .i32 (Utf8.decode ⟨s.toArray⟩ p).1])))
     (.ret (.tup [.bool false]))
 |_=> .fail
def zes(v:V):Prog:=match v with| .it id=> .get id (zml id)|_=> .fail
@[congr]theorem nxtP_congr{v v':V}(h1:v=v'):zes v=zes v':=by rw[h1]
@[go_sem]theorem opQ_next(x:Operand):yh ih T raw ev (.next x true)=zes (ev x):=by
 unfold zes;show(match ev x with| .it id=>_|_=>_)=_;cases ev x<;>rfl
@[go_sem]theorem nxtP_it(id:Nat):zes (.it id)= .get id (zml id):=rfl
@[go_sem]theorem nxtRow_s(id:Nat)(s:List UInt8)(p:Nat):zml id (.siter s p)=br (decide (p<s.length))
     (.set id (.siter s (p+(Utf8.decode ⟨s.toArray⟩ p).2)) (.ret (.tup [.bool true,.int .i64 p,.int .i32 (Utf8.decode ⟨s.toArray⟩ p).1])))
     (.ret (.tup [.bool false])):=rfl
end
end Go.Den
namespace Go.Den
open Go
section
variable (T:Tab)
abbrev yow(c:Code)(os:List SO):Prop:=∀(ih:Ih) (rnd:Bool) (n:Nat) (k:List Item) (st:St),runK ih T rnd (n+1) (.code c::k) st=zbd ih T os none st fun st=>runK ih T rnd n k st
theorem zz{c:Code}{os:List SO}(h:zdb c=some (os,none)):yow T c os:=fun ih rnd n k st=>yrv ih T rnd n k st h
abbrev yoy(c:Code)(f:Nat)(os:List SO)(ps:List (Nat×Nat)):Prop:=∀(ih:Ih) (rnd:Bool) (n:Nat) (k:List Item) (nt fp:Nat) (env:Den.Env) (H:zj) (Fz:Nat) (S:xb),runK ih T rnd (n+1) (.code c::k) ⟨f,nt,fp,env,H,Fz,S⟩=zbd ih T os (some ps) ⟨f,nt,fp,env,H,Fz,S⟩ fun st=>runK ih T rnd n k st
theorem xv{c:Code}{os:List SO}{id f:Nat}{ps:List (Nat×Nat)}(h:zdb c=some (os,some id))(hp:T.pairs f id=ps):yoy T c f os ps:=fun ih rnd n k nt fp env H Fz S=>yru ih T rnd n k h hp nt fp env H Fz S
abbrev yox(r c:Code):Prop:=∀(ih:Ih) (rnd:Bool) (n:Nat) (k:List Item) (st:St),runK ih T rnd n (.code r::k) st=runK ih T rnd n (.code c::k) st
theorem zr{r c:Code}(h:r=c):yox T r c:=fun ih rnd n k st=>yrw ih T rnd n k st h
abbrev ze(f:Nat)(b:Code)(ks:List Nat):Prop:=∀(nt fp:Nat) (env:Den.Env) (H:zj) (Fz:Nat) (S:xb),jn T ⟨f,nt,fp,env,H,Fz,S⟩ b=gc ks ⟨f,nt,fp,env,H,Fz,S⟩
theorem zo{f:Nat}{b:Code}{ks:List Nat}(h:T.keep f (keyOf b)=some ks):ze T f b ks:=yx7 h
abbrev KeepN(f:Nat)(b:Code):Prop:=∀(nt fp:Nat) (env:Den.Env) (H:zj) (Fz:Nat) (S:xb),jn T ⟨f,nt,fp,env,H,Fz,S⟩ b=some ⟨f,nt,fp,env,H,Fz,S⟩
abbrev zw(f:Nat)(rs:List ResultVar)(b:Bool):Prop:=(∀(nt fp:Nat) (env:Den.Env) (H:zj) (Fz:Nat) (S:xb),je T false ⟨f,nt,fp,env,H,Fz,S⟩ (some .ret)=resultsK T ⟨f,nt,fp,env,H,Fz,S⟩ rs [] fun vs=>need (!z9 vs) (zbn T b vs H Fz S))∧
 (∀(nt fp:Nat) (env:Den.Env) (H:zj) (Fz:Nat) (S:xb),je T false ⟨f,nt,fp,env,H,Fz,S⟩ none=resultsK T ⟨f,nt,fp,env,H,Fz,S⟩ rs [] fun vs=>need (!z9 vs) (zbn T b vs H Fz S))
theorem zy{f:Nat}{F:Func}{rs:List ResultVar}{b:Bool}(h:T.fn f=some F)(hr:F.results.toList=rs)(hb:T.byref f=b):zw T f rs b:=⟨xan T h hr hb,xao T h hr hb⟩
abbrev xc(f nt:Nat)(c:Code):Prop:=∀(args:List V) (H:zj) (Fz:Nat) (S:xb),(zu T).call f args H Fz S=need (decide (args.length≤nt)) (zb0 (runK (zu T) T false qk [.code c] ⟨f,nt,H.length,params 0 args,H,Fz,S⟩))
theorem zk{f:Nat}{F:Func}{c:Code}{nt:Nat}(h:T.fn f=some F)(hb:F.body=some c)(hn:F.ntmps=nt):xc T f nt c:=enter T h hb hn
abbrev xd(f:Nat)(b:Bool)(p:Option (List V→Option V))(r:Bool):Prop:=T.byref f=b∧T.prim f=p∧T.raw f=r
abbrev zcq(f:Nat):Prop:=∀{α:Type} (v:V) (k:V→Option α),qu T f v k=k v
abbrev zf(f:Nat)(t:TypeId):Prop:=∀{α:Type} (v:V) (k:V→Option α),qu T f v k=shape T 6 t v k
abbrev zak(f:Nat)(t u:TypeId)(ts:List TypeId):Prop:=∀{α:Type} (v:V) (k:V→Option α),qu T f v k=zaj v fun vs=>need (vs.length==(t::u::ts).length) (shParts (shape T 6) (t::u::ts) vs [] fun r=>k (.tup r))
end
def dp:Nat→Nat→List (Nat×Nat)
 |0,_=> []
 |f+1,n=>match Nat.beq n 0 with
  |true=> []
  |false=>(n %128,n/128 %128)::dp f (n/16384)
end Go.Den
