import Derived.Test.YtjiidembdmfikaaGreatDoorZQ
import Derived.LaidHandle
import Derived.Lib.LaidTab
import Derived.Test.YtjiidembdmfikaaGreatDoorZP
import Derived.Test.YtjiidembdmfikaaGreatDoorZO
import Derived.KernelRfl
set_option linter.all false
set_option maxHeartbeats 8000000
set_option maxRecDepth 100000
namespace Go.Den
open Go Go.ChangeShapes Go.RowKit
section
variable {H:Type} {enc:TypeId×Value→H} {P:Program} {W W':World}
theorem xi3{name:String}{g:Nat}{cs:Array Value}(hn:P.globalNamed name=some g)(h:W.var? P name=some cs):(G0 W).M g=some (.cells cs):=by
 unfold World.var? at h;rw[hn,Option.bind_some]at h;unfold G0;dsimp only;split at h
 ·rename_i h1;rw[h1];simp only[Option.some.injEq]at h;rw[h]
 ·cases h
theorem xit{n:Nat}{t:TypeId}{v:Value}{d:DataW H}{p:List MemPlace}{base:Nat}{sp:Nat→Bool}{held:Bool}(hk:uf P n t=true)(hv:Value.okWide P W .any base t v)(h:DataW.Trod enc P W 0 sp held t v d p):
  ∃vs,Cl P n t vs∧Rel (G0 W) (mk P t vs) v∧pureV (mk P t vs)=true:=by
 obtain⟨fuel,h⟩:=h;obtain⟨vs,ho,hc⟩:=xfq n fuel t _ _ hk h;have hmk:=zhe hc ho.cell;refine⟨vs,hc,?_,hmk.2.2 ho.pure⟩;cases n with
 |zero=>cases hk
 |succ n=>
  unfold Value.okWide at hv;unfold Cl at hc
  have one:∀u,vs= [u]→v.cells= #[v]→Rel (G0 W) (vs.headD .undef) v:=by
   rintro u rfl hcv;have:=ho.rel;rw[hcv]at this;exact this.2 0 u v rfl rfl
  unfold mk;split at hc
  ·rename_i hu
   simp only[hu]at hv⊢;obtain⟨b,hb⟩:=hc;refine one _ hb ?_;cases v<;>first|rfl|(simp[Cell.okWide,Cell.ok,hu]at hv)
  ·rename_i hu
   simp only[hu]at hv⊢;obtain⟨b,hb,_⟩:=hc;refine one _ hb ?_;cases v<;>first|rfl|(simp[Cell.okWide,Cell.ok,hu]at hv)
  ·rename_i hu
   simp only[hu]at hv⊢;obtain⟨b,hb,_⟩:=hc;refine one _ hb ?_;cases v<;>first|rfl|(simp[Cell.okWide,Cell.ok,hu]at hv)
  ·rename_i hu
   simp only[hu]at hv⊢;obtain⟨b,hb⟩:=hc;refine one _ hb ?_;cases v<;>first|rfl|(simp[Cell.okWide,Cell.ok,hu]at hv)
  ·rename_i hu
   simp only[hu]at hv⊢;obtain⟨b,l,hb,_⟩:=hc;refine one _ hb ?_;cases v<;>first|rfl|(simp[Cell.okWide,Cell.ok,hu]at hv)
  ·rename_i hu
   simp only[hu]at hv⊢;obtain⟨cs,rfl,_,_⟩:=hv;exact .agg _ _ (q9.2 ho.rel).1 (q9.2 ho.rel).2
  ·rename_i hu
   simp only[hu]at hv⊢;obtain⟨cs,rfl,_,_⟩:=hv;exact .agg _ _ (q9.2 ho.rel).1 (q9.2 ho.rel).2
  ·cases hc
theorem yor{n:Nat}{base:Nat}{sp:Nat→Bool}{held:Bool}:∀{ts:List TypeId} {vs:List Value} {ds:List (DataW H)} {ps:List MemPlace},(ts.all fun t=>uf P n t)=true→DataW.TrodAll enc P W 0 sp held ts vs ds ps→
  (∀(j:Nat) t v,ts[j]? =some t→vs[j]? =some v→Value.okWide P W .any base t v)→
  ∃as:List V,LRel (G0 W) as vs∧as.length=ts.length∧∀(i:Nat) t a,ts[i]? =some t→as[i]? =some a→∃us,Cl P n t us∧a=mk P t us
 | [],vs,ds,ps,_,h,_=>by
  obtain⟨rfl,rfl,rfl⟩:=trodAll_nil h;exact⟨[],⟨rfl,fun i v x h=>by simp at h⟩,rfl,fun i t a h=>by simp at h⟩
 |t::ts,vs,ds,ps,hk,h,hv=>by
  obtain⟨v,vs1,d,ds1,a,b,rfl,rfl,rfl,h1,h2⟩:=trodAll_cons h;simp only[List.all_cons,Bool.and_eq_true]at hk;obtain⟨us,c1,c2,_⟩:=xit hk.1 (hv 0 t v rfl rfl) h1;obtain⟨as,r1,r2,r3⟩:=yor hk.2 h2 (fun j t v hj hj'=>hv (j+1) t v (by simpa using hj) (by simpa using hj'));refine⟨mk P t us::as,⟨by simp[r1.1],fun i v x hi hx=> ?_⟩,by simp[r2],fun i t' a' hi ha=> ?_⟩
  ·cases i with
   |zero=>simp at hi hx;subst hi hx;exact c2
   |succ i=>exact r1.2 i v x (by simpa using hi) (by simpa using hx)
  ·cases i with
   |zero=>simp at hi ha;subst hi ha;exact⟨us,c1,rfl⟩
   |succ i=>exact r3 i t' a' (by simpa using hi) (by simpa using ha)
theorem xf9{T:Tab}(hS:zcs P T (zu T)){f:FuncId}(hb:T.byref f=false){as:List V}(hl:(zu T).call f as [] 0 []=some (.bool true,[],0,[])){xs:Array Value}(hx:LRel (G0 W) as xs.toList)
  (hg:∀g cs,T.glob g=some cs→∃c,(G0 W).M g=some (.cells c)∧RelL (G0 W) cs c∧pureL cs=true∧∀u∈cs,isCell u=true):
  Calls P f xs W fun e W'=>e= .returned (.bool true)∧W.heap.size≤W'.heap.size∧(∀b,b<W.heap.size→W'.heap[b]? =W.heap[b]?)∧Oo W W':=by
 refine callsIn_wide.1 ((hS f as [] 0 [] _ [] 0 [] hl (G0 W) [] W xs ⟨hx.1,fun i v y hv hy=>(hx.2 i v y hv hy).toT⟩ (yzi hg) (fun _=>⟨rfl,rfl⟩)).mono ?_);rintro e w' ⟨y,G',Os',rfl,hr,hs,_,_⟩;cases hr;exact⟨rfl,hs.size,fun b hb=>hs.keep b hb (fun⟨id,g,hid,_⟩=>by cases hid) w6 id,hs.oo⟩
theorem zo7(hl:laidOutB P=true)(hk:∀b,b<W.heap.size→W'.heap[b]? =W.heap[b]?):∀{ts:List TypeId} {vs:List Value} {ds:List (DataW H)} {ps:List MemPlace},(ts.all fun t=>P.readableRec t&&decide (t<P.types.size))=true→
  DataW.TrodAll enc P W 0 (fun _=>true) true ts vs ds ps→(∀x∈ps,x.block<W.heap.size)→DataW.TrodAll enc P W' 0 (fun b=>decide (b<W.heap.size)) true ts vs ds ps
 | [],vs,ds,ps,_,h,_=>by
  obtain⟨rfl,rfl,rfl⟩:=trodAll_nil h;rfl
 |t::ts,vs,ds,ps,ht,h,hlt=>by
  obtain⟨v,vs1,d,ds1,a,b,rfl,rfl,rfl,h1,h2⟩:=trodAll_cons h;simp only[List.all_cons,Bool.and_eq_true,decide_eq_true_eq]at ht;refine⟨a,b,?_,zo7 hl hk ht.2 h2 (fun x hx=>hlt x (List.mem_append_right _ hx)),rfl⟩;refine WideElems.Trod_stays hl ht.1.1 ht.1.2 h1 (fun x hx=> ?_) (fun x hx=>by simpa using hlt x (List.mem_append_left _ hx));have:=hlt x (List.mem_append_left _ hx);cases x with
  |cell b o=>exact World.cell?_of_block (w:=W) (hk b this)
  |map b=>exact hk b this
theorem yxz{f:Func}{s:ChangeSpec}{args:Array Value}{ds gs:List (DataW H)}{before:List MemPlace}{tb:TypeId}(hvars:s.vars= [])(hres:f.resultTypes= #[tb])(htb:P.underlying tb=some .bool)
  (hfn:s.fn H (ds++gs)={results:= [.lit (.bool true)],args:=ds})(hl:laidOutB P=true)(hpar:(f.params.toList.all fun t=>P.readableRec t&&decide (t<P.types.size))=true)
  (hW:DataW.Whole enc P f.params.toList s.vars false W args.toList ds gs before)(hs:W.heap.size≤W'.heap.size)(hk:∀b,b<W.heap.size→W'.heap[b]? =W.heap[b]?)(ho:Oo W W'):
  s.post enc P f false true false false W args (.bool true) W':=by
 have hlt:=hW.lt;have hW0:=hW;obtain⟨p,q,hA,hV,rfl,hfz,hnd⟩:=hW0;rw[hvars]at hV;obtain⟨rfl,rfl⟩:=trodVars_none hV;refine⟨ds,[],p++ [],[],p,[],hW,?_,?_,?_,⟨ho.1,ho.2,fun i hi=> ?_⟩,fun h=>by cases h⟩
 ·rw[hfn,hres]
  exact trodAll_mk1 (shut_bool htb _)
 ·rw[hfn]
  exact zo7 hl hk hpar hA (fun x hx=>hlt x (List.mem_append_left _ hx))
 ·rw[hfn,hvars];rfl
 ·rw[hk i hi]
  split<;>simp_all
end
end Go.Den
namespace Go.Den
open Go
attribute [go_sem] Int.cast_ofNat_Int implies_true forall_const
abbrev oo(d:Nat)(op:Op):SO:=⟨some d,op,none⟩
abbrev ot(d:Nat)(op:Op)(g:Nat):SO:=⟨some d,op,some (some g,true)⟩
abbrev of(d:Nat)(op:Op)(g:Nat):SO:=⟨some d,op,some (some g,false)⟩
abbrev oM(a:Nat):Op:= .move (.tmp a)
abbrev oL(t a:Nat):Op:= .load t (.tmp a)
abbrev oI(t a b:Nat):Op:= .indexAddr t (.tmp a) (.tmp b)
abbrev oF(t a f:Nat):Op:= .fieldAddr t (.tmp a) f
abbrev oB(o:BinOp)(t a b:Nat):Op:= .binOp o t (.tmp a) (.tmp b) t
abbrev oC(o:BinOp)(t a:Nat)(n:Int):Op:= .binOp o t (.tmp a) (.const (.int .i64 n)) t
abbrev oN(a t:Nat):Op:= .call ⟨.builtin .len,#[.tmp a],#[t]⟩
abbrev oA(a b t:Nat):Op:= .call ⟨.builtin .append,#[.tmp a,.tmp b],#[t,t]⟩
abbrev oS(t a:Nat):Op:= .buildSlice t 1 #[(0,.tmp a)]
abbrev oG(a:Nat):Op:= .assign (.tmp a)
abbrev oi(n:Int):Op:= .assign (.const (.int .i64 n))
abbrev on:Op:= .assign (.const (.slice none 0 0))
abbrev o1(f a t:Nat):Op:= .call ⟨.value (.func f),#[.tmp a],#[t]⟩
abbrev o2(f a b t u:Nat):Op:= .call ⟨.value (.func f),#[.tmp a,.tmp b],#[t,u]⟩
abbrev oX(a i:Nat):Op:= .extract (.tmp a) i
abbrev ow(t a v:Nat):SO:=⟨none,.store t (.tmp a) (.tmp v),none⟩
def pth:Nat→Nat→List Nat→List Nat
 |0,_,acc=>acc
 |f+1,n,acc=>match Nat.ble n 1 with
  |true=>acc
  |false=>pth f (n/2) (n %2::acc)
def nv(n:Nat)(f:Func):Code:=nav (pth 200 n []) (xik f)
theorem ysv(n id:Nat)(k:List Nat→Prog):reachP (n+2) [id] [] k= .get id fun r=>(match r with
    | .cells _ false _ l=>reachP (n+1) (zi l++ []) [id] k
    |_=>k [id]):=by
 rw[reachP];simp only[List.any_nil];rfl
theorem yst(n:Nat)(b:Bool)(ty:TypeId)(l:List V):reach (n+2) [0] [] [.cells b true ty l]=some [0]:=by
 rw[reach];simp only[List.any_nil];show reach (n+1) [] [0] _=_;rw[reach];rfl
theorem zm7{α:Type}{ih:Ih}{T:Tab}{f:Nat}{args:List V}{id:Nat}(hb:T.byref f=true)(hr:zcq T f)(hids:zi args= [id])(hy:z9 args=false)(k:V→Prog)
  {slot:Option Nat}{H:zj}{Fz:Nat}{S:xb}{rd wr fr:Nat}{sk:Bool}{K:V→zj→Nat→xb→FP→Option α}{b:Bool}{ty:TypeId}{l l':List V}
  (hH:H[id]? =some (.cells b true ty l))(hz:Fz.testBit id=false)(hc:ih.call f (x9 (idx [id]) args) [.cells b true ty l] 0 []=some (.tup [],[.cells b true ty l'],0,[])):
  (callP ih T f args k).go slot H Fz S ⟨rd,wr,fr,sk⟩ K=(k (.tup [])).go slot (H.set id (.cells b true ty l')) Fz S ⟨rd|||bit id|||bit id,wr|||bit id|||bit id,fr,sk⟩ K:=by
 have hlt:id<H.length:=(List.getElem?_eq_some_iff.1 hH).1;unfold callP;rw[hb];simp only;rw[hids,show(10000:Nat)=9998+2 from rfl,ysv,go_get,hH];simp only[zn,maskP];rw[ze7,hz];simp only[rowsP];rw[go_get,hH];simp only[zn,List.reverse_cons,List.reverse_nil,List.nil_append,hy,withStk];have hm:xh (idx [id]) [Row.cells b true ty l]= [.cells b true ty l]:=rfl;rw[hm,zbm,hc];simp only[zn];have hrs:List.range [id].length++idsV (.tup [])= [0]:=rfl;rw[zbm,hrs,yst];simp only[zn];have hn:xy [id].length [0]= []:=rfl;rw[hn];cases slot with
 |none=>
  rw[zhy];simp only[pick,xh,ql,vc,List.length_cons,List.length_nil,List.take_succ_cons,List.take_zero,List.take_nil];rw[zdp];simp only[decide_eq_true hlt,need,qb,Nat.zero_testBit];rw[hr];rfl
 |some i=>
  rw[yzl];simp only[pick,xh,ql,vc,List.length_cons,List.length_nil,List.take_succ_cons,List.take_zero,List.take_nil];rw[zdp];simp only[decide_eq_true hlt,need,qb,Nat.zero_testBit];rw[hr];rfl
end Go.Den
namespace Go.Den
open Go
section
variable (T:Tab) (k:V→Prog)
def zns(id a n:Nat)(e:TypeId)(ys:List V)(k:Prog):Row→Prog
 | .cells false fl ety l=>needP (T.size ety==T.size e) (.set id (.cells false (fl&&pureL ys) ety (l.take a++(ys.take n++l.drop (a+min ys.length n)))) k)
 |_=> .fail
@[go_sem]theorem copyAt_eq(id a n:Nat)(e:TypeId)(ys:List V)(k:Prog):zay T id a n e ys k= .isFz id fun z=>needP (!z) (.get id (zns T id a n e ys k)):=by
 unfold zay;congr 1;funext z;cases z
 ·simp only[Bool.not_false,needP]
  congr 1;funext row;unfold zns;simp only[xe];cases row<;>(try rfl)
  try (rename_i b fl ty l;cases b<;>rfl)
 ·rfl
@[go_sem]theorem cpRow_c(id a n:Nat)(e ety:TypeId)(fl:Bool)(l ys:List V)(k:Prog):zns T id a n e ys k (.cells false fl ety l)=needP (T.size ety==T.size e) (.set id (.cells false (fl&&pureL ys) ety (l.take a++(ys.take n++l.drop (a+min ys.length n)))) k):=rfl
def cpP(d:TD)(x y:V):Prog:=match d,x with
  | .slice e,.ref id=>jv T (T.size e) y fun ys=> .get id (zaa fun _ _ l=>zay T id 0 l.length e ys (k (.int .i64 (min ys.length l.length:Nat))))
  | .slice e,.sub id a n=>jv T (T.size e) y fun ys=>zay T id a n e ys (k (.int .i64 (min ys.length n:Nat)))
  | .slice e,.sl false _ []=>jv T (T.size e) y fun _=>k (.int .i64 0)
  |_,_=> .fail
@[go_sem]theorem bi_copy(t t':TypeId)(x y:V):jy T .copy [t,t'] [x,y] k=cpP T k (T.td t) x y:=by
 simp only[jy,cpP];cases T.td t<;>(try rfl)<;>cases x<;>(try rfl)
 all_goals first
  |(simp only;congr 1;funext ys;congr 1;funext row;cases row<;>rfl)
  |(rename_i nn z l;cases nn<;>(try rfl);cases l<;>rfl)
@[go_sem]theorem cp_ref(e:TypeId)(id:Nat)(y:V):cpP T k (.slice e) (.ref id) y=jv T (T.size e) y fun ys=> .get id (zaa fun _ _ l=>zay T id 0 l.length e ys (k (.int .i64 (min ys.length l.length:Nat)))):=rfl
end
def w7(eq:V→V→Bool):List V→List V→Bool
 | [],[]=>true
 |a::as,b::bs=>(match eq a b with|true=>w7 eq as bs|false=>false)
 |_,_=>false
def eqb:Nat→V→V→Bool
 |0,_,_=>false
 |n+1,a,b=>match a,b with
  | .bool a,.bool b=>(match a,b with|true,true=>true|false,false=>true|_,_=>false)
  | .int .i64 a,.int .i64 b=>a==b
  | .flt .f64 a,.flt .f64 b=>Nat.beq a b
  | .str a,.str b=>a==b
  | .nilp,.nilp=>true
  | .nilf,.nilf=>true
  | .sl a w l,.sl b w' l'=>(match a,b with
   |true,true=>(match Nat.beq w w' with|true=>w7 (eqb n) l l'|false=>false)
   |false,false=>(match Nat.beq w w' with|true=>w7 (eqb n) l l'|false=>false)
   |_,_=>false)
  | .agg l,.agg l'=>w7 (eqb n) l l'
  |_,_=>false
theorem eqbL_eq{eq:V→V→Bool}(h:∀a b,eq a b=true→a=b):∀a b,w7 eq a b=true→a=b
 | [],[],_=>rfl
 |a::as,b::bs,h'=>by
  simp only[w7]at h';split at h'
  ·rename_i h1
   rw[h _ _ h1,eqbL_eq h as bs h']
  ·cases h'
 | [],_::_,h'=>by simp[w7]at h'
 |_::_,[],h'=>by simp[w7]at h'
theorem ymu:∀n a b,eqb n a b=true→a=b:=by
 intro n
 induction n with
 |zero=>intro a b h;simp[eqb]at h
 |succ n ih=>
  intro a b h;unfold eqb at h;split at h
  ·split at h<;>simp_all
  ·simpa using h
  ·simpa using h
  ·simpa using h
  ·rfl
  ·rfl
  ·split at h
   ·split at h
    ·rename_i h1;rw[eqbL_eq ih _ _ h,Nat.eq_of_beq_eq_true h1]
    ·cases h
   ·split at h
    ·rename_i h1;rw[eqbL_eq ih _ _ h,Nat.eq_of_beq_eq_true h1]
    ·cases h
   ·cases h
  ·rw[eqbL_eq ih _ _ h]
  ·cases h
abbrev zbs:=List (FuncId×List V×V)
def zdj:zbs→FuncId→List V→Option V
 | [],_,_=>none
 |(g,as,v)::m,f,args=>match Nat.beq g f with
  |true=>(match w7 (eqb 12) as args with|true=>some v|false=>zdj m f args)
  |false=>zdj m f args
def ur(T:Tab)(M:zbs):Nat→Ih
 |0=>{loop:=fun _ _ _=>none,call:=fun _ _ _ _ _=>none,yld:=fun _ _ _=>none}
 |n+1=>
  {loop:=(xp T (ur T M n)).loop
   yld:=(xp T (ur T M n)).yld
   call:=fun f args H Fz S=>match H,Fz,S with
    | [],0,[]=>(match zdj M f args with
     |some v=>some (v,[],0,[])
     |none=>(xp T (ur T M n)).call f args [] 0 [])
    |H,Fz,S=>(xp T (ur T M n)).call f args H Fz S}
def MemoOk(T:Tab)(M:zbs):Prop:=∀e∈M,(zu T).call e.1 e.2.1 [] 0 []=some (e.2.2,[],0,[])
theorem MemoOk.nil(T:Tab):MemoOk T []:=fun _ h=>absurd h (List.not_mem_nil)
theorem MemoOk.cons{T:Tab}{M:zbs}{f args v}(h:MemoOk T M)(h':(zu T).call f args [] 0 []=some (v,[],0,[])):MemoOk T ((f,args,v)::M):=by
 intro e he;rcases List.mem_cons.1 he with rfl|he
 ·exact h'
 ·exact h e he
theorem zmr{T:Tab}:∀{M:zbs},MemoOk T M→∀{f args v},zdj M f args=some v→(zu T).call f args [] 0 []=some (v,[],0,[])
 | [],_,f,args,v,h=>by simp[zdj]at h
 |(g,as,u)::m,hM,f,args,v,h=>by
  have hm:MemoOk T m:=fun e he=>hM e (List.mem_cons_of_mem _ he);unfold zdj at h;split at h
  ·rename_i h1
   split at h
   ·rename_i h2
    have h3:=hM (g,as,u) (List.mem_cons_self);have:=Nat.eq_of_beq_eq_true h1;have e:=eqbL_eq (ymu 12) _ _ h2;cases h;subst this e;exact h3
   ·exact zmr hm h
  ·exact zmr hm h
theorem xbb{T:Tab}{M:zbs}(hM:MemoOk T M):∀n,(ur T M n).le (zu T):=by
 intro n
 induction n with
 |zero=>exact⟨fun f args H Fz S r h=>by simp[ur]at h,fun rnd items st r h=>by simp[ur]at h,fun d args S r h=>by simp[ur]at h⟩
 |succ n ih=>
  have hs:(xp T (ur T M n)).le (zu T):=((zc0 T ih.apx).le).trans (zcz T);refine⟨fun f args H Fz S r h=> ?_,hs.loop,hs.yld⟩;simp only[ur]at h;split at h
  ·split at h
   ·rename_i h1
    cases h;exact zmr hM h1
   ·exact hs.call _ _ _ _ _ _ h
  ·exact hs.call _ _ _ _ _ _ h
theorem jf{T:Tab}{M:zbs}(hM:MemoOk T M)(n:Nat){f args r}(h:(ur T M n).call f args [] 0 []=some r):(zu T).call f args [] 0 []=some r:=(xbb hM n).call _ _ _ _ _ _ h
theorem ylb:∀rs:List Nat,xy 0 rs=rs
 | []=>rfl
 |x::r=>by
  have:Nat.blt x 0=false:=by simp[Nat.blt,Nat.ble]
  simp only[xy,this,ylb r]
def zox(T:Tab)(f:Nat)(b:Nat)(k:V→Prog)(q:V×zj×Nat×xb):List Nat→Prog:=fun rs=>
 ql (xh (z6 [] rs b) (pick q.2.1 rs)) (qb (z6 [] rs b) q.2.2.1 rs (match q.2.2.2 with| []=>toP (qu T f (xz (z6 [] rs b) q.1) fun v=>some (k v))|_=> .fail))
@[go_sem]theorem go_brN{α:Type}{ih:Ih}{T:Tab}{f:Nat}{args:List V}(hb:T.byref f=true)(hids:zi args= [])(hy:z9 args=false)(k:V→Prog)
  {H:zj}{Fz:Nat}{S:xb}{rd wr fr:Nat}{sk:Bool}{K:V→zj→Nat→xb→FP→Option α}:
  (callP ih T f args k).go none H Fz S ⟨rd,wr,fr,sk⟩ K=zn (ih.call f args [] 0 []) fun q=>zn (reach 10000 (idsV q.1) [] q.2.1) fun rs=>(zox T f H.length k q rs).go none H Fz S ⟨rd,wr,fr,sk⟩ K:=by
 unfold callP;rw[hb];simp only;rw[hids,show(10000:Nat)=9999+1 from rfl];rw[reachP];simp only[List.reverse_nil,maskP,rowsP,xh,withStk,hy];rw[ze1 _ _ hids,zbm];cases ih.call f args [] 0 []with
 |none=>rfl
 |some q=>
  obtain⟨v,H',Fz',S'⟩:=q;simp only[zn];rw[zbm];simp only[List.length_nil,List.range_zero,List.nil_append];cases reach (9999+1) (idsV v) [] H' with
  |none=>rfl
  |some rs=>
   simp only[zn];rw[zhy];simp only[zox,ylb,List.take_zero,xh,vc];cases S'<;>rfl
@[go_sem]theorem afterB_eq(T:Tab)(f:Nat)(b:Nat)(k:V→Prog)(v:V)(H':zj)(Fz':Nat)(rs:List Nat):zox T f b k (v,H',Fz',[]) rs=ql (xh (z6 [] rs b) (pick H' rs)) (qb (z6 [] rs b) Fz' rs (toP (qu T f (xz (z6 [] rs b) v) fun v=>some (k v)))):=rfl
@[go_sem]theorem backId_0(rs:List Nat)(b x:Nat):z6 [] rs b x=b+idx rs x:=by
 have:Nat.blt x 0=false:=by simp[Nat.blt,Nat.ble]
 simp only[z6,List.length_nil,this]
@[go_sem]theorem newRowsP_nil(k:Prog):ql [] k=k:=rfl
@[go_sem]theorem newRowsP_c(b f:Bool)(t:TypeId)(l:List V)(rs:zj)(k:Prog):ql (.cells b f t l::rs) k= .new (.cells b f t l) (ql rs k):=rfl
@[go_sem]theorem frzAllP_nil(g:Nat→Nat)(Fz:Nat)(k:Prog):qb g Fz [] k=k:=rfl
@[go_sem]theorem frzAllP_0(g:Nat→Nat)(x:Nat)(r:List Nat)(k:Prog):qb g 0 (x::r) k=qb g 0 r k:=by simp[qb]
section
variable {T:Tab} {k:V→Prog}
theorem yyx(a b:Int):(if b>a then b else a)=max a b:=by
 by_cases h:b>a
 ·rw[if_pos h];omega
 ·rw[if_neg h];omega
theorem yyw(a b:Int):(if b<a then b else a)=min a b:=by
 by_cases h:b<a
 ·rw[if_pos h];omega
 ·rw[if_neg h];omega
@[go_sem]theorem bi_max2(kd:IntKind)(a b:Int)(ts:List TypeId):jy T .max ts [.int kd a,.int kd b] k=k (.int kd (max a b)):=by
 simp only[jy,zey,asInt,toP,yyx]
@[go_sem]theorem bi_min2(kd:IntKind)(a b:Int)(ts:List TypeId):jy T .min ts [.int kd a,.int kd b] k=k (.int kd (min a b)):=by
 simp only[jy,zeu,asInt,toP,yyw]
end
end Go.Den
namespace Go.Den
open Go
section
variable {T:Tab} {α:Type} {k:V→Option α}
end
end Go.Den
namespace Go.Den
open Go
@[go_sem]theorem gcO_eq(fp:Nat)(vs:List V)(H:zj):gcO fp vs H=need (Nat.ble fp H.length) (reach 10000 (zam (H.take fp)++zi vs) (List.range fp).reverse H):=rfl
@[go_sem]theorem rowsIds_nil:zam []= []:=rfl
end Go.Den
namespace Go.Den
open Go
theorem zot{T:Tab}{k:V→Prog}(e id:Nat)(xs:List V)(h:xs.isEmpty=false)(fl:Bool)(ety:TypeId)(l:List V):zj1 T e id xs k (.cells false fl ety l)=
  needP (T.size ety==T.size e) (needP (decide ((l++xs).length<maxRow)) (.set id .dead (newP (.cells false (fl&&pureL xs) ety (l++xs)) fun id'=>k (.ref id')))):=by
 cases xs with
 |nil=>cases h
 |cons x r=>rfl
section
variable {T:Tab}
@[go_sem]theorem callV_yld(ih:Ih)(n:Nat)(args:List V)(k:V→Prog):callV ih T (.yld n) args k=stowLP T args fun args=>needP (!z9 args)<| .stk fun S=>optP (ih.yld n args S) fun r=> .setStk r.2 (k (.bool r.1)):=rfl
@[go_sem]theorem mapH_yld(g:Nat→Nat)(n:Nat):xz g (.yld n)= .yld n:=rfl
theorem yo2{S:xb}{own own':Own}(hd:own.done=false){args:List V}(hl:own.ps.length=args.length){jump:Option Code}{H':zj}{Fz':Nat}
  (h:runK (zu T) T true qk [.code own.assign,.beginRound,.code own.body] ⟨own.fn,own.nt,own.H.length,own.ps.zip args++own.env,own.H,own.Fz,S⟩=some (.round jump,H',Fz',S))(he:zaq T own H' Fz' jump=some own'):
  (zu T).yld S.length args (S++ [own])=some (jump.isNone,S++ [own']):=by
 rw[yxb];simp[xp,hd,hl,h,he,need]
theorem za9{S:xb}{own:Own}(hk:T.keep own.fn 1000000=none)(hd:own.done=false){args:List V}(hl:own.ps.length=args.length){jump:Option Code}{H':zj}{Fz':Nat}
  (h:runK (zu T) T true qk [.code own.assign,.beginRound,.code own.body] ⟨own.fn,own.nt,own.H.length,own.ps.zip args++own.env,own.H,own.Fz,S⟩=some (.round jump,H',Fz',S)):
  (zu T).yld S.length args (S++ [own])=some (jump.isNone,S++ [{own with H:=H',Fz:=Fz',done:=jump.isSome,pending:=jump}]):=
 yo2 hd hl h (by unfold zaq;rw[hk])
noncomputable def qj(T:Tab)(d:Nat):List V→xb→Option (Bool×xb)
 | [],S=>some (true,S)
 |x::r,S=>match (zu T).yld d [x] S with
  |some (true,S')=>qj T d r S'
  |o=>o
theorem xf8{args caps:List V}{g:Nat}(hy:z9 caps=false):zau (.fn g caps)=false∧zd0 args caps=args++caps:=by
 cases caps with
 |nil=>exact⟨rfl,rfl⟩
 |cons c r=>cases c<;>first|exact⟨rfl,rfl⟩|(simp[z9,zm]at hy)
theorem zbe{rnd:Bool}{n f' nt fp:Nat}{env:Den.Env}{H:zj}{Fz:Nat}{S:xb}{f:Operand}{ps:Array Nat}{as body:Code}{k:List Item}{g:Nat}{caps:List V}
  (hf:St.eval ⟨f',nt,fp,env,H,Fz,S⟩ f= .fn g caps)(hp:zi caps= [])(hy:z9 caps=false)(hb:T.byref g=false)(hq:T.prim g=none)(hr:zcq T g)(hps:zac nt ps.toList=true){v:V}{H':zj}{Fz':Nat}{own':Own}
  (hc:(zu T).call g (.yld S.length::caps) [] 0 (S++ [⟨f',nt,env,H,Fz,ps.toList,as,body,false,none,fp⟩])=some (v,H',Fz',S++ [own'])):
  runK (zu T) T rnd (n+1) (.code (.rangeFunc f ps as body)::k) ⟨f',nt,fp,env,H,Fz,S⟩=runK (zu T) T rnd n (match own'.pending with|some c=> .code c::k|none=>k) ⟨own'.fn,own'.nt,fp,own'.env,own'.H,own'.Fz,S⟩:=by
 have h1:pureV (.fn g caps)=true:=by simp[pureV,idsV,hp]
 have h2:pureL (.yld S.length::caps)=true:=by simp[pureL,zi,idsV,hp]
 have h3:z9 (.yld S.length::caps)=true:=rfl;have h4:yle T (.fn g caps)=false:=hb;obtain⟨h5,h6⟩:=xf8 (args:= [.yld S.length]) (g:=g) hy;simp only[runK,hps,need,hf,vd,h1,Prog.go,h4,h5,Bool.not_false];simp only[callV,callP,hb,hq,h6,List.cons_append,List.nil_append,stowLP,h2,h3,withStk,FP.none];simp[Prog.go,hc,optP,toP,hr];cases own'.pending<;>rfl
end
section
variable {α:Type} {T:Tab}
theorem zkz{x y:Nat}(hxy:x≠y){H:zj}{b1 b2:Bool}{t1 t2:TypeId}{l1 l2:List V}(hx:H[x]? =some (.cells b1 true t1 l1))(hy:H[y]? =some (.cells b2 false t2 l2))(hl:zi l2= [x])(n:Nat)(k:List Nat→Prog)
  {slot:Option Nat}{Fz:Nat}{S:xb}{rd wr fr:Nat}{sk:Bool}{K:V→zj→Nat→xb→FP→Option α}:
  (reachP (n+4) [x,y] [] k).go slot H Fz S ⟨rd,wr,fr,sk⟩ K=(k [x,y]).go slot H Fz S ⟨rd|||bit x|||bit y,wr,fr,sk⟩ K:=by
 have e1:Nat.beq y x=false:=by rw[xe];simpa using fun h=>hxy h.symm
 have e2:Nat.beq x x=true:=by rw[xe];simp
 rw[reachP];simp only[List.any_nil];rw[go_get,hx];simp only[zn];rw[reachP];simp only[List.any_cons,List.any_nil,e1,Bool.or_false];rw[go_get,hy];simp only[zn,hl,List.cons_append,List.nil_append];rw[reachP];simp only[List.any_cons,e2,Bool.or_true,Bool.true_or];simp only[reachP,List.reverse_cons,List.reverse_nil,List.nil_append,List.cons_append]
theorem ysw{x y:Nat}(hxy:x≠y){H:zj}{b1 b2:Bool}{t1 t2:TypeId}{l1 l2:List V}(hx:H[x]? =some (.cells b1 false t1 l1))(hy:H[y]? =some (.cells b2 true t2 l2))(hl:zi l1= [y])(n:Nat)(k:List Nat→Prog)
  {slot:Option Nat}{Fz:Nat}{S:xb}{rd wr fr:Nat}{sk:Bool}{K:V→zj→Nat→xb→FP→Option α}:
  (reachP (n+4) [x] [] k).go slot H Fz S ⟨rd,wr,fr,sk⟩ K=(k [x,y]).go slot H Fz S ⟨rd|||bit x|||bit y,wr,fr,sk⟩ K:=by
 have e1:Nat.beq y x=false:=by rw[xe];simpa using fun h=>hxy h.symm
 rw[reachP];simp only[List.any_nil];rw[go_get,hx];simp only[zn,hl,List.cons_append,List.nil_append];rw[reachP];simp only[List.any_cons,List.any_nil,e1,Bool.or_false];rw[go_get,hy];simp only[zn];simp only[reachP,List.reverse_cons,List.reverse_nil,List.nil_append,List.cons_append]
theorem zhx{ih:Ih}{f:Nat}{args:List V}{x y:Nat}(hb:T.byref f=true)(hy:z9 args=false)(k:V→Prog)
  {H:zj}{Fz:Nat}{S:xb}{rd wr fr:Nat}{sk:Bool}{K:V→zj→Nat→xb→FP→Option α}{rx ry rx' ry':Row}{args':List V}{rows':zj}{v:V}
  (hreach:∀k':List Nat→Prog,(reachP 10000 (zi args) [] k').go none H Fz S ⟨rd,wr,fr,sk⟩ K=(k' [x,y]).go none H Fz S ⟨rd|||bit x|||bit y,wr,fr,sk⟩ K)
  (hx:H[x]? =some rx)(hyy:H[y]? =some ry)(hzx:Fz.testBit x=false)(hzy:Fz.testBit y=false)
  (ha:x9 (idx [x,y]) args=args')(hw:xh (idx [x,y]) [rx,ry]=rows')(hc:ih.call f args' rows' 0 []=some (v,[rx',ry'],0,[]))
  (hrs:reach 10000 ([0,1]++idsV v) [] [rx',ry']=some [0,1]):
  (callP ih T f args k).go none H Fz S ⟨rd,wr,fr,sk⟩ K=(toP (qu T f (xz (z6 [x,y] [] H.length) v) fun v=>some (k v))).go none ((H.set x (qg (z6 [x,y] [] H.length) rx')).set y (qg (z6 [x,y] [] H.length) ry')) Fz S
   ⟨rd|||bit x|||bit y|||bit x|||bit y,wr|||bit x|||bit y|||bit x|||bit y,fr,sk⟩ K:=by
 have l1:x<H.length:=(List.getElem?_eq_some_iff.1 hx).1;have l2:y<H.length:=(List.getElem?_eq_some_iff.1 hyy).1;unfold callP;rw[hb];simp only;rw[hreach];simp only[maskP];rw[ze7,hzx];simp only;rw[ze7,hzy];simp only[rowsP];rw[go_get,hx];simp only[zn];rw[go_get,hyy];simp only[zn,List.reverse_cons,List.reverse_nil,List.nil_append,List.cons_append,hy,withStk];rw[ha,hw,zbm,hc];simp only[zn];have hrs':List.range [x,y].length++idsV v= [0,1]++idsV v:=rfl;rw[zbm,hrs',hrs];simp only[zn];have hn:xy [x,y].length [0,1]= []:=rfl;rw[hn,zhy];simp only[pick,xh,ql,vc,List.length_cons,List.length_nil,List.take_succ_cons,List.take_zero,List.take_nil];rw[zdp];simp only[decide_eq_true l1,need];rw[zdp];simp only[List.length_set,decide_eq_true l2,need,qb,Nat.zero_testBit]
end
section
variable (T:Tab)
def zig(id a n:Nat)(e:TypeId)(k:Prog):Row→Prog
 | .cells false fl ety l=>needP (T.size ety==T.size e&&zg (T.size e) (T.zero e)) (.set id (.cells false (fl&&pureV (T.zero e)) ety (l.take a++(List.replicate n (T.zero e)++l.drop (a+n)))) k)
 |_=> .fail
def zfl(d:TD)(x:V)(k:Prog):Prog:=match d,x with
 | .slice e,.sub id a n=> .isFz id fun z=>needP (!z) (.get id (zig T id a n e k))
 | .slice _,.sl _ _ []=>k
 |_,_=> .fail
@[go_sem]theorem bi_clear(t:TypeId)(ts:List TypeId)(x:V)(k:V→Prog):jy T .clear (t::ts) [x] k=zfl T (T.td t) x (k (.tup [])):=by
 cases x with
 |sub id a n=>
  simp only[jy,zfl];cases T.td t<;>(try rfl);simp only;congr 1;funext z;cases z
  ·simp only[Bool.not_false,needP]
   congr 1;funext row;unfold zig;cases row with
   |cells b fl ety l=>cases b<;>simp only[xe,needP]
   |_=>rfl
  ·rfl
 |sl b z l=>cases l<;>(simp only[jy,zfl];cases T.td t<;>rfl)
 |_=>simp only[jy,zfl];cases T.td t<;>rfl
@[go_sem]theorem clrP_sub(e:TypeId)(id a n:Nat)(k:Prog):zfl T (.slice e) (.sub id a n) k= .isFz id fun z=>needP (!z) (.get id (zig T id a n e k)):=rfl
@[go_sem]theorem clrRow_c(id a n:Nat)(e ety:TypeId)(fl:Bool)(l:List V)(k:Prog):zig T id a n e k (.cells false fl ety l)=
  needP (T.size ety==T.size e&&zg (T.size e) (T.zero e)) (.set id (.cells false (fl&&pureV (T.zero e)) ety (l.take a++(List.replicate n (T.zero e)++l.drop (a+n)))) k):=rfl
end
section
variable {α:Type} {T:Tab}
theorem zgq{x y:Nat}(hxy:x≠y){H:zj}{b1 b2:Bool}{t1 t2:TypeId}{l1 l2:List V}(hx:H[x]? =some (.cells b1 true t1 l1))(hy:H[y]? =some (.cells b2 true t2 l2))(n:Nat)(k:List Nat→Prog)
  {slot:Option Nat}{Fz:Nat}{S:xb}{rd wr fr:Nat}{sk:Bool}{K:V→zj→Nat→xb→FP→Option α}:
  (reachP (n+4) [x,y] [] k).go slot H Fz S ⟨rd,wr,fr,sk⟩ K=(k [x,y]).go slot H Fz S ⟨rd|||bit x|||bit y,wr,fr,sk⟩ K:=by
 have e1:Nat.beq y x=false:=by rw[xe];simpa using fun h=>hxy h.symm
 rw[reachP];simp only[List.any_nil];rw[go_get,hx];simp only[zn];rw[reachP];simp only[List.any_cons,List.any_nil,e1,Bool.or_false];rw[go_get,hy];simp only[zn];simp only[reachP,List.reverse_cons,List.reverse_nil,List.nil_append,List.cons_append]
theorem zhw{ih:Ih}{f:Nat}{args:List V}{x y:Nat}(hb:T.byref f=true)(hy:z9 args=false)(k:V→Prog)
  {H:zj}{Fz:Nat}{S:xb}{rd wr fr:Nat}{sk:Bool}{K:V→zj→Nat→xb→FP→Option α}{rx ry rx' ry':Row}{args':List V}{rows':zj}{v:V}{z:Bool}
  (hreach:∀k':List Nat→Prog,(reachP 10000 (zi args) [] k').go none H Fz S ⟨rd,wr,fr,sk⟩ K=(k' [x,y]).go none H Fz S ⟨rd|||bit x|||bit y,wr,fr,sk⟩ K)
  (hx:H[x]? =some rx)(hyy:H[y]? =some ry)(hzx:Fz.testBit x=false)(hzy:Fz.testBit y=z)
  (ha:x9 (idx [x,y]) args=args')(hw:xh (idx [x,y]) [rx,ry]=rows')(hc:ih.call f args' rows' (cond z 2 0) []=some (v,[rx',ry'],2,[]))
  (hrs:reach 10000 ([0,1]++idsV v) [] [rx',ry']=some [0,1]):
  (callP ih T f args k).go none H Fz S ⟨rd,wr,fr,sk⟩ K=(toP (qu T f (xz (z6 [x,y] [] H.length) v) fun v=>some (k v))).go none ((H.set x (qg (z6 [x,y] [] H.length) rx')).set y (qg (z6 [x,y] [] H.length) ry')) (Fz|||bit y) S
   ⟨rd|||bit x|||bit y|||bit x|||bit y,wr|||bit x|||bit y|||bit x|||bit y,fr|||bit y,sk⟩ K:=by
 have l1:x<H.length:=(List.getElem?_eq_some_iff.1 hx).1;have l2:y<H.length:=(List.getElem?_eq_some_iff.1 hyy).1;have hbk:z6 [x,y] [] H.length 1=y:=rfl;unfold callP;rw[hb];simp only;rw[hreach];simp only[maskP];rw[ze7,hzx];simp only;rw[ze7,hzy];simp only[rowsP];rw[go_get,hx];simp only[zn];rw[go_get,hyy];simp only[zn,List.reverse_cons,List.reverse_nil,List.nil_append,List.cons_append,hy,withStk];rw[ha,hw,zbm]
 have fin:∀w:Nat,ih.call f args' rows' w []=some (v,[rx',ry'],2,[])→∀Q,(zn (ih.call f args' rows' w []) Q:Option α)=Q (v,[rx',ry'],2,[]):=by
  intro w hw' Q;rw[hw'];rfl
 refine Eq.trans (fin _ (by cases z<;>exact hc) _) ?_;have hrs':List.range [x,y].length++idsV v= [0,1]++idsV v:=rfl;rw[zbm,hrs',hrs];simp only[zn];have hn:xy [x,y].length [0,1]= []:=rfl;rw[hn,zhy];simp only[pick,xh,ql,vc,List.length_cons,List.length_nil,List.take_succ_cons,List.take_zero,List.take_nil];rw[zdp];simp only[decide_eq_true l1,need];rw[zdp];have t0:Nat.testBit 2 0=false:=rfl;have t1:Nat.testBit 2 1=true:=rfl;simp only[List.length_set,decide_eq_true l2,need,qb,t0,t1];rw[yzk,hbk]
end
section
variable {T:Tab} {ih:Ih}
def yot(T:Tab)(f:Nat)(ids:List Nat)(k:V→Prog)(q:V×zj×Nat×xb):Prog:=
 optP (reach 10000 (List.range ids.length++idsV q.1) [] q.2.1) fun rs=> .base fun b=>
  vc ids (xh (z6 ids (xy ids.length rs) b) (q.2.1.take ids.length)) (ql (xh (z6 ids (xy ids.length rs) b) (pick q.2.1 (xy ids.length rs)))
   (qb (z6 ids (xy ids.length rs) b) q.2.2.1 rs (match q.2.2.2 with| []=>toP (qu T f (xz (z6 ids (xy ids.length rs) b) q.1) fun v=>some (k v))|_=> .fail)))
theorem xgf{f:Nat}{args:List V}{k:V→Prog}(h:T.byref f=true)(hy:z9 args=false):callP ih T f args k=reachP 10000 (zi args) [] fun ids=>maskP ids 0 0 fun Fz=>rowsP ids [] fun rows=>optP (ih.call f (x9 (idx ids) args) (xh (idx ids) rows) Fz []) (yot T f ids k):=by
 unfold callP;rw[h];simp only[hy,withStk];rfl
@[go_sem]theorem afterR_eq(f:Nat)(ids:List Nat)(k:V→Prog)(v:V)(H':zj)(Fz':Nat):yot T f ids k (v,H',Fz',[])=
 optP (reach 10000 (List.range ids.length++idsV v) [] H') fun rs=> .base fun b=>
  vc ids (xh (z6 ids (xy ids.length rs) b) (H'.take ids.length)) (ql (xh (z6 ids (xy ids.length rs) b) (pick H' (xy ids.length rs)))
   (qb (z6 ids (xy ids.length rs) b) Fz' rs (toP (qu T f (xz (z6 ids (xy ids.length rs) b) v) fun v=>some (k v))))):=rfl
variable (n id:Nat) (w seen:List Nat) (k:List Nat→Prog)
@[go_sem]theorem reachP_nil:reachP (n+1) [] seen k=k seen.reverse:=rfl
variable (m:Nat) (r:List Nat) (k':Nat→Prog) (kh:zj→Prog)
@[go_sem]theorem maskP_nil:maskP [] n m k'=k' m:=rfl
@[go_sem]theorem rowsP_nil(acc:zj):rowsP [] acc kh=kh acc.reverse:=rfl
@[go_sem]theorem setRowsP_nil(p:Prog):vc [] [] p=p:=rfl
@[go_sem]theorem newIds_nil:xy n []= []:=rfl
@[go_sem]theorem newIds_cons(x:Nat):xy n (x::r)=cond (decide (x<n)) (xy n r) (x::xy n r):=by
 rw[xy];have:Nat.blt x n=decide (x<n):=by rw[Bool.eq_iff_iff];simp[Nat.blt,Nat.succ_le_iff]
 rw[this];cases decide (x<n)<;>rfl
theorem xio(ids new:List Nat)(at_ x:Nat):z6 ids new at_ x=cond (decide (x<ids.length)) (match ids[x]? with|some id=>id|none=>0) (at_+idx new x):=by
 unfold z6;have:Nat.blt x ids.length=decide (x<ids.length):=by rw[Bool.eq_iff_iff];simp[Nat.blt,Nat.succ_le_iff]
 rw[this];cases decide (x<ids.length)<;>rfl
theorem xaf(g:Nat→Nat)(Fz x:Nat)(p:Prog):qb g Fz (x::r) p=br (Fz.testBit x) (.frz (g x) (qb g Fz r p)) (qb g Fz r p):=by
 rw[qb];cases Fz.testBit x<;>rfl
end
def ue(T:Tab)(M:FuncId→List V→Option V):Nat→Ih
 |0=>{loop:=fun _ _ _=>none,call:=fun _ _ _ _ _=>none,yld:=fun _ _ _=>none}
 |n+1=>
  {loop:=(xp T (ue T M n)).loop
   yld:=(xp T (ue T M n)).yld
   call:=fun f args H Fz S=>match H,Fz,S with
    | [],0,[]=>(match M f args with
     |some v=>some (v,[],0,[])
     |none=>(xp T (ue T M n)).call f args [] 0 [])
    |H,Fz,S=>(xp T (ue T M n)).call f args H Fz S}
theorem xbd{T:Tab}{M:FuncId→List V→Option V}(hM:∀f args v,M f args=some v→(zu T).call f args [] 0 []=some (v,[],0,[])):∀n,(ue T M n).le (zu T):=by
 intro n
 induction n with
 |zero=>exact⟨fun f args H Fz S r h=>by simp[ue]at h,fun rnd items st r h=>by simp[ue]at h,fun d args S r h=>by simp[ue]at h⟩
 |succ n ih=>
  have hs:(xp T (ue T M n)).le (zu T):=((zc0 T ih.apx).le).trans (zcz T);refine⟨fun f args H Fz S r h=> ?_,hs.loop,hs.yld⟩;simp only[ue]at h;split at h
  ·split at h
   ·rename_i h1
    cases h;exact hM _ _ _ h1
   ·exact hs.call _ _ _ _ _ _ h
  ·exact hs.call _ _ _ _ _ _ h
theorem zdk{T:Tab}{M:FuncId→List V→Option V}(hM:∀f args v,M f args=some v→(zu T).call f args [] 0 []=some (v,[],0,[]))(n:Nat){f args r}(h:(ue T M n).call f args [] 0 []=some r):(zu T).call f args [] 0 []=some r:=(xbd hM n).call _ _ _ _ _ _ h
def eqA:V→V→Bool
 | .ref a,.ref b=>Nat.beq a b
 | .int .i64 a,.int .i64 b=>a==b
 | .fn f [],.fn g []=>Nat.beq f g
 |_,_=>false
theorem xbh(a b:V)(h:eqA a b=true):a=b:=by
 unfold eqA at h;split at h
 ·rw[Nat.eq_of_beq_eq_true h]
 ·simpa using h
 ·rw[Nat.eq_of_beq_eq_true h]
 ·cases h
structure FactG where
 f:FuncId
 args:List V
 ty:TypeId
 i:List V
 v:V
 o:List V
def FactG.ok(T:Tab)(q:FactG):Prop:=(zu T).call q.f q.args [.cells false true q.ty q.i] 0 []=some (q.v,[.cells false true q.ty q.o],0,[])
def zew:List FactG→FuncId→List V→TypeId→List V→Option (V×zj×Nat×xb)
 | [],_,_,_,_=>none
 |q::L,f,args,ty,l=>match Nat.beq q.f f&&(Nat.beq q.ty ty&&(w7 eqA q.args args&&w7 (eqb 6) q.i l))with
  |true=>some (q.v,[.cells false true q.ty q.o],0,[])
  |false=>zew L f args ty l
theorem ylh{T:Tab}:∀{L:List FactG},(∀q∈L,q.ok T)→∀{f args ty l r},zew L f args ty l=some r→(zu T).call f args [.cells false true ty l] 0 []=some r
 | [],_,f,args,ty,l,r,h=>by simp[zew]at h
 |q::L,hL,f,args,ty,l,r,h=>by
  unfold zew at h;split at h
  ·rename_i h1
   simp only[Bool.and_eq_true]at h1;obtain⟨a1,a2,a3,a4⟩:=h1;have e1:=Nat.eq_of_beq_eq_true a1;have e2:=Nat.eq_of_beq_eq_true a2;have e3:=eqbL_eq xbh _ _ a3;have e4:=eqbL_eq (ymu 6) _ _ a4;cases h;have:=hL q (List.mem_cons_self);unfold FactG.ok at this;rw[←e1,←e2,←e3,←e4];exact this
  ·exact ylh (fun q hq=>hL q (List.mem_cons_of_mem _ hq)) h
def uu(T:Tab)(M:FuncId→List V→Option V)(L:List FactG):Nat→Ih
 |0=>{loop:=fun _ _ _=>none,call:=fun _ _ _ _ _=>none,yld:=fun _ _ _=>none}
 |n+1=>
  {loop:=(xp T (uu T M L n)).loop
   yld:=(xp T (uu T M L n)).yld
   call:=fun f args H Fz S=>match H,Fz,S with
    | [],0,[]=>(match M f args with
     |some v=>some (v,[],0,[])
     |none=>(xp T (uu T M L n)).call f args [] 0 [])
    | [.cells false true ty l],0,[]=>(match zew L f args ty l with
     |some r=>some r
     |none=>(xp T (uu T M L n)).call f args [.cells false true ty l] 0 [])
    |H,Fz,S=>(xp T (uu T M L n)).call f args H Fz S}
theorem xbc{T:Tab}{M:FuncId→List V→Option V}{L:List FactG}(hM:∀f args v,M f args=some v→(zu T).call f args [] 0 []=some (v,[],0,[]))(hL:∀q∈L,q.ok T):∀n,(uu T M L n).le (zu T):=by
 intro n
 induction n with
 |zero=>exact⟨fun f args H Fz S r h=>by simp[uu]at h,fun rnd items st r h=>by simp[uu]at h,fun d args S r h=>by simp[uu]at h⟩
 |succ n ih=>
  have hs:(xp T (uu T M L n)).le (zu T):=((zc0 T ih.apx).le).trans (zcz T);refine⟨fun f args H Fz S r h=> ?_,hs.loop,hs.yld⟩;simp only[uu]at h;split at h
  ·split at h
   ·rename_i h1
    cases h;exact hM _ _ _ h1
   ·exact hs.call _ _ _ _ _ _ h
  ·split at h
   ·rename_i h1
    cases h;exact ylh hL h1
   ·exact hs.call _ _ _ _ _ _ h
  ·exact hs.call _ _ _ _ _ _ h
theorem zev{T:Tab}{M:FuncId→List V→Option V}{L:List FactG}(hM:∀f args v,M f args=some v→(zu T).call f args [] 0 []=some (v,[],0,[]))(hL:∀q∈L,q.ok T)(n:Nat){f args H r}(h:(uu T M L n).call f args H 0 []=some r):(zu T).call f args H 0 []=some r:=(xbc hM hL n).call _ _ _ _ _ _ h
theorem zfe(T:Tab):∀q∈([]:List FactG),q.ok T:=fun _ h=>absurd h (List.not_mem_nil)
theorem zcc{T:Tab}{q:FactG}{L:List FactG}(h:q.ok T)(hL:∀q∈L,q.ok T):∀r∈q::L,r.ok T:=by
 intro r hr;rcases List.mem_cons.1 hr with rfl|hr
 ·exact h
 ·exact hL r hr
end Go.Den
