import Derived.Test.YteeikdgoeehhkaaGreatDoorZQ
import Derived.LaidHandle
import Derived.Lib.LaidTab
import Derived.Test.YteeikdgoeehhkaaGreatDoorZP
import Derived.Test.YteeikdgoeehhkaaGreatDoorZO
import Derived.KernelRfl
set_option linter.all false
set_option maxHeartbeats 8000000
set_option maxRecDepth 100000
namespace Go.Den
open Go Go.ChangeShapes Go.RowKit
section
variable {H:Type} {enc:TypeId×Value→H} {P:Program} {W W':World}
theorem xf1{name:String}{g:Nat}{cs:Array Value}(hn:P.globalNamed name=some g)(h:W.var? P name=some cs):(G0 W).M g=some (.cells cs):=by
 unfold World.var? at h;rw[hn,Option.bind_some]at h;unfold G0;dsimp only;split at h
 ·rename_i h1;rw[h1];simp only[Option.some.injEq]at h;rw[h]
 ·cases h
theorem xfp{n:Nat}{t:TypeId}{v:Value}{d:DataW H}{p:List MemPlace}{base:Nat}{sp:Nat→Bool}{held:Bool}(hk:fq P n t=true)(hv:Value.okWide P W .any base t v)(h:DataW.Trod enc P W 0 sp held t v d p):
  ∃vs,Cl P n t vs∧Rel (G0 W) (mk P t vs) v∧pureV (mk P t vs)=true:=by
 obtain⟨fuel,h⟩:=h;obtain⟨vs,ho,hc⟩:=xca n fuel t _ _ hk h;have hmk:=zhm hc ho.cell;refine⟨vs,hc,?_,hmk.2.2 ho.pure⟩;cases n with
 |zero=>cases hk
 |succ n=>
  unfold Value.okWide at hv;unfold Cl at hc
  have one:∀u,vs= [u]→v.cells= #[v]→Rel (G0 W) (vs.headD .undef) v:=by
   rintro u rfl hcv;have:=ho.rel;rw[hcv]at this;exact this.2 0 u v rfl rfl
  unfold mk;split at hc
  ·rename_i hu
   simp only[hu]at hv⊢;obtain⟨b,hb⟩:=hc;refine one _ hb ?_;cases v<;>first|rfl|(simp[Cell.okWide,Cell.ok,hu]at hv)
  ·rename_i hu
   simp only[hu]at hv⊢;obtain⟨b,hb,_⟩:=hc;refine one _ hb ?_;cases v<;>first|rfl|(simp[Cell.okWide,Cell.ok,hu]at hv)
  ·rename_i hu
   simp only[hu]at hv⊢;obtain⟨b,hb,_⟩:=hc;refine one _ hb ?_;cases v<;>first|rfl|(simp[Cell.okWide,Cell.ok,hu]at hv)
  ·rename_i hu
   simp only[hu]at hv⊢;obtain⟨b,hb⟩:=hc;refine one _ hb ?_;cases v<;>first|rfl|(simp[Cell.okWide,Cell.ok,hu]at hv)
  ·rename_i hu
   simp only[hu]at hv⊢;obtain⟨b,l,hb,_⟩:=hc;refine one _ hb ?_;cases v<;>first|rfl|(simp[Cell.okWide,Cell.ok,hu]at hv)
  ·rename_i hu
   simp only[hu]at hv⊢;obtain⟨cs,rfl,_,_⟩:=hv;exact .agg _ _ (jm.2 ho.rel).1 (jm.2 ho.rel).2
  ·rename_i hu
   simp only[hu]at hv⊢;obtain⟨cs,rfl,_,_⟩:=hv;exact .agg _ _ (jm.2 ho.rel).1 (jm.2 ho.rel).2
  ·cases hc
theorem ylg{n:Nat}{base:Nat}{sp:Nat→Bool}{held:Bool}:∀{ts:List TypeId} {vs:List Value} {ds:List (DataW H)} {ps:List MemPlace},(ts.all fun t=>fq P n t)=true→DataW.TrodAll enc P W 0 sp held ts vs ds ps→
  (∀(j:Nat) t v,ts[j]? =some t→vs[j]? =some v→Value.okWide P W .any base t v)→
  ∃as:List V,LRel (G0 W) as vs∧as.length=ts.length∧∀(i:Nat) t a,ts[i]? =some t→as[i]? =some a→∃us,Cl P n t us∧a=mk P t us
 | [],vs,ds,ps,_,h,_=>by
  obtain⟨rfl,rfl,rfl⟩:=trodAll_nil h;exact⟨[],⟨rfl,fun i v x h=>by simp at h⟩,rfl,fun i t a h=>by simp at h⟩
 |t::ts,vs,ds,ps,hk,h,hv=>by
  obtain⟨v,vs1,d,ds1,a,b,rfl,rfl,rfl,h1,h2⟩:=trodAll_cons h;simp only[List.all_cons,Bool.and_eq_true]at hk;obtain⟨us,c1,c2,_⟩:=xfp hk.1 (hv 0 t v rfl rfl) h1;obtain⟨as,r1,r2,r3⟩:=ylg hk.2 h2 (fun j t v hj hj'=>hv (j+1) t v (by simpa using hj) (by simpa using hj'));refine⟨mk P t us::as,⟨by simp[r1.1],fun i v x hi hx=> ?_⟩,by simp[r2],fun i t' a' hi ha=> ?_⟩
  ·cases i with
   |zero=>simp at hi hx;subst hi hx;exact c2
   |succ i=>exact r1.2 i v x (by simpa using hi) (by simpa using hx)
  ·cases i with
   |zero=>simp at hi ha;subst hi ha;exact⟨us,c1,rfl⟩
   |succ i=>exact r3 i t' a' (by simpa using hi) (by simpa using ha)
theorem xdb{T:Tab}(hS:zcy P T (zu T)){f:FuncId}(hb:T.byref f=false){as:List V}(hl:(zu T).call f as [] 0 []=some (.bool true,[],0,[])){xs:Array Value}(hx:LRel (G0 W) as xs.toList)
  (hg:∀g cs,T.glob g=some cs→∃c,(G0 W).M g=some (.cells c)∧RelL (G0 W) cs c∧pureL cs=true∧∀u∈cs,isCell u=true):
  Calls P f xs W fun e W'=>e= .returned (.bool true)∧W.heap.size≤W'.heap.size∧(∀b,b<W.heap.size→W'.heap[b]? =W.heap[b]?)∧Oo W W':=by
 refine callsIn_wide.1 ((hS f as [] 0 [] _ [] 0 [] hl (G0 W) [] W xs ⟨hx.1,fun i v y hv hy=>(hx.2 i v y hv hy).toT⟩ (yxm hg) (fun _=>⟨rfl,rfl⟩)).mono ?_);rintro e w' ⟨y,G',Os',rfl,hr,hs,_,_⟩;cases hr;exact⟨rfl,hs.size,fun b hb=>hs.keep b hb (fun⟨id,g,hid,_⟩=>by cases hid) yo id,hs.oo⟩
theorem zo6(hl:laidOutB P=true)(hk:∀b,b<W.heap.size→W'.heap[b]? =W.heap[b]?):∀{ts:List TypeId} {vs:List Value} {ds:List (DataW H)} {ps:List MemPlace},(ts.all fun t=>P.readableRec t&&decide (t<P.types.size))=true→
  DataW.TrodAll enc P W 0 (fun _=>true) true ts vs ds ps→(∀x∈ps,x.block<W.heap.size)→DataW.TrodAll enc P W' 0 (fun b=>decide (b<W.heap.size)) true ts vs ds ps
 | [],vs,ds,ps,_,h,_=>by
  obtain⟨rfl,rfl,rfl⟩:=trodAll_nil h;rfl
 |t::ts,vs,ds,ps,ht,h,hlt=>by
  obtain⟨v,vs1,d,ds1,a,b,rfl,rfl,rfl,h1,h2⟩:=trodAll_cons h;simp only[List.all_cons,Bool.and_eq_true,decide_eq_true_eq]at ht;refine⟨a,b,?_,zo6 hl hk ht.2 h2 (fun x hx=>hlt x (List.mem_append_right _ hx)),rfl⟩;refine WideElems.Trod_stays hl ht.1.1 ht.1.2 h1 (fun x hx=> ?_) (fun x hx=>by simpa using hlt x (List.mem_append_left _ hx));have:=hlt x (List.mem_append_left _ hx);cases x with
  |cell b o=>exact World.cell?_of_block (w:=W) (hk b this)
  |map b=>exact hk b this
theorem ywc{f:Func}{s:ChangeSpec}{args:Array Value}{ds gs:List (DataW H)}{before:List MemPlace}{tb:TypeId}(hvars:s.vars= [])(hres:f.resultTypes= #[tb])(htb:P.underlying tb=some .bool)
  (hfn:s.fn H (ds++gs)={results:= [.lit (.bool true)],args:=ds})(hl:laidOutB P=true)(hpar:(f.params.toList.all fun t=>P.readableRec t&&decide (t<P.types.size))=true)
  (hW:DataW.Whole enc P f.params.toList s.vars false W args.toList ds gs before)(hs:W.heap.size≤W'.heap.size)(hk:∀b,b<W.heap.size→W'.heap[b]? =W.heap[b]?)(ho:Oo W W'):
  s.post enc P f false true false false W args (.bool true) W':=by
 have hlt:=hW.lt;have hW0:=hW;obtain⟨p,q,hA,hV,rfl,hfz,hnd⟩:=hW0;rw[hvars]at hV;obtain⟨rfl,rfl⟩:=trodVars_none hV;refine⟨ds,[],p++ [],[],p,[],hW,?_,?_,?_,⟨ho.1,ho.2,fun i hi=> ?_⟩,fun h=>by cases h⟩
 ·rw[hfn,hres]
  exact trodAll_mk1 (shut_bool htb _)
 ·rw[hfn]
  exact zo6 hl hk hpar hA (fun x hx=>hlt x (List.mem_append_left _ hx))
 ·rw[hfn,hvars];rfl
 ·rw[hk i hi]
  split<;>simp_all
end
end Go.Den
namespace Go.Den
open Go
attribute [go_sem] Int.cast_ofNat_Int implies_true forall_const
abbrev oo(d:Nat)(op:Op):SO:=⟨some d,op,none⟩
abbrev ot(d:Nat)(op:Op)(g:Nat):SO:=⟨some d,op,some (some g,true)⟩
abbrev of(d:Nat)(op:Op)(g:Nat):SO:=⟨some d,op,some (some g,false)⟩
abbrev oM(a:Nat):Op:= .move (.tmp a)
abbrev oL(t a:Nat):Op:= .load t (.tmp a)
abbrev oI(t a b:Nat):Op:= .indexAddr t (.tmp a) (.tmp b)
abbrev oF(t a f:Nat):Op:= .fieldAddr t (.tmp a) f
abbrev oB(o:BinOp)(t a b:Nat):Op:= .binOp o t (.tmp a) (.tmp b) t
abbrev oC(o:BinOp)(t a:Nat)(n:Int):Op:= .binOp o t (.tmp a) (.const (.int .i64 n)) t
abbrev oN(a t:Nat):Op:= .call ⟨.builtin .len,#[.tmp a],#[t]⟩
abbrev oA(a b t:Nat):Op:= .call ⟨.builtin .append,#[.tmp a,.tmp b],#[t,t]⟩
abbrev oS(t a:Nat):Op:= .buildSlice t 1 #[(0,.tmp a)]
abbrev oG(a:Nat):Op:= .assign (.tmp a)
abbrev oi(n:Int):Op:= .assign (.const (.int .i64 n))
abbrev on:Op:= .assign (.const (.slice none 0 0))
abbrev o1(f a t:Nat):Op:= .call ⟨.value (.func f),#[.tmp a],#[t]⟩
abbrev o2(f a b t u:Nat):Op:= .call ⟨.value (.func f),#[.tmp a,.tmp b],#[t,u]⟩
abbrev oX(a i:Nat):Op:= .extract (.tmp a) i
abbrev ow(t a v:Nat):SO:=⟨none,.store t (.tmp a) (.tmp v),none⟩
def pth:Nat→Nat→List Nat→List Nat
 |0,_,acc=>acc
 |f+1,n,acc=>match Nat.ble n 1 with
  |true=>acc
  |false=>pth f (n/2) (n %2::acc)
def nv(n:Nat)(f:Func):Code:=nav (pth 200 n []) (xfh f)
theorem yqa(n id:Nat)(k:List Nat→Prog):reachP (n+2) [id] [] k= .get id fun r=>(match r with
    | .cells _ false _ l=>reachP (n+1) (zt l++ []) [id] k
    |_=>k [id]):=by
 rw[reachP];simp only[List.any_nil];rfl
theorem yp8(n:Nat)(b:Bool)(ty:TypeId)(l:List V):reach (n+2) [0] [] [.cells b true ty l]=some [0]:=by
 rw[reach];simp only[List.any_nil];show reach (n+1) [] [0] _=_;rw[reach];rfl
theorem znb{α:Type}{ih:Ih}{T:Tab}{f:Nat}{args:List V}{id:Nat}(hb:T.byref f=true)(hr:zcw T f)(hids:zt args= [id])(hy:xj args=false)(k:V→Prog)
  {slot:Option Nat}{H:zw}{Fz:Nat}{S:xt}{rd wr fr:Nat}{sk:Bool}{K:V→zw→Nat→xt→FP→Option α}{b:Bool}{ty:TypeId}{l l':List V}
  (hH:H[id]? =some (.cells b true ty l))(hz:Fz.testBit id=false)(hc:ih.call f (qu (idx [id]) args) [.cells b true ty l] 0 []=some (.tup [],[.cells b true ty l'],0,[])):
  (callP ih T f args k).go slot H Fz S ⟨rd,wr,fr,sk⟩ K=(k (.tup [])).go slot (H.set id (.cells b true ty l')) Fz S ⟨rd|||bit id|||bit id,wr|||bit id|||bit id,fr,sk⟩ K:=by
 have hlt:id<H.length:=(List.getElem?_eq_some_iff.1 hH).1;unfold callP;rw[hb];simp only;rw[hids,show(10000:Nat)=9998+2 from rfl,yqa,go_get,hH];simp only[zn,maskP];rw[zfa,hz];simp only[rowsP];rw[go_get,hH];simp only[zn,List.reverse_cons,List.reverse_nil,List.nil_append,hy,withStk];have hm:xr (idx [id]) [Row.cells b true ty l]= [.cells b true ty l]:=rfl;rw[hm,zbl,hc];simp only[zn];have hrs:List.range [id].length++idsV (.tup [])= [0]:=rfl;rw[zbl,hrs,yp8];simp only[zn];have hn:xp [id].length [0]= []:=rfl;rw[hn];cases slot with
 |none=>
  rw[zh6];simp only[pick,xr,jr,vy,List.length_cons,List.length_nil,List.take_succ_cons,List.take_zero,List.take_nil];rw[zdr];simp only[decide_eq_true hlt,need,jz,Nat.zero_testBit];rw[hr];rfl
 |some i=>
  rw[yxp];simp only[pick,xr,jr,vy,List.length_cons,List.length_nil,List.take_succ_cons,List.take_zero,List.take_nil];rw[zdr];simp only[decide_eq_true hlt,need,jz,Nat.zero_testBit];rw[hr];rfl
end Go.Den
namespace Go.Den
open Go
section
variable (T:Tab) (k:V→Prog)
def zny(id a n:Nat)(e:TypeId)(ys:List V)(k:Prog):Row→Prog
 | .cells false fl ety l=>needP (T.size ety==T.size e) (.set id (.cells false (fl&&pureL ys) ety (l.take a++(ys.take n++l.drop (a+min ys.length n)))) k)
 |_=> .fail
@[go_sem]theorem copyAt_eq(id a n:Nat)(e:TypeId)(ys:List V)(k:Prog):zaz T id a n e ys k= .isFz id fun z=>needP (!z) (.get id (zny T id a n e ys k)):=by
 unfold zaz;congr 1;funext z;cases z
 ·simp only[Bool.not_false,needP]
  congr 1;funext row;unfold zny;simp only[xn];cases row<;>(try rfl)
  try (rename_i b fl ty l;cases b<;>rfl)
 ·rfl
@[go_sem]theorem cpRow_c(id a n:Nat)(e ety:TypeId)(fl:Bool)(l ys:List V)(k:Prog):zny T id a n e ys k (.cells false fl ety l)=needP (T.size ety==T.size e) (.set id (.cells false (fl&&pureL ys) ety (l.take a++(ys.take n++l.drop (a+min ys.length n)))) k):=rfl
def cpP(d:TD)(x y:V):Prog:=match d,x with
  | .slice e,.ref id=>jg T (T.size e) y fun ys=> .get id (vn fun _ _ l=>zaz T id 0 l.length e ys (k (.int .i64 (min ys.length l.length:Nat))))
  | .slice e,.sub id a n=>jg T (T.size e) y fun ys=>zaz T id a n e ys (k (.int .i64 (min ys.length n:Nat)))
  | .slice e,.sl false _ []=>jg T (T.size e) y fun _=>k (.int .i64 0)
  |_,_=> .fail
@[go_sem]theorem bi_copy(t t':TypeId)(x y:V):j4 T .copy [t,t'] [x,y] k=cpP T k (T.td t) x y:=by
 simp only[j4,cpP];cases T.td t<;>(try rfl)<;>cases x<;>(try rfl)
 all_goals first
  |(simp only;congr 1;funext ys;congr 1;funext row;cases row<;>rfl)
  |(rename_i nn z l;cases nn<;>(try rfl);cases l<;>rfl)
@[go_sem]theorem cp_ref(e:TypeId)(id:Nat)(y:V):cpP T k (.slice e) (.ref id) y=jg T (T.size e) y fun ys=> .get id (vn fun _ _ l=>zaz T id 0 l.length e ys (k (.int .i64 (min ys.length l.length:Nat)))):=rfl
end
def ya(eq:V→V→Bool):List V→List V→Bool
 | [],[]=>true
 |a::as,b::bs=>(match eq a b with|true=>ya eq as bs|false=>false)
 |_,_=>false
def eqb:Nat→V→V→Bool
 |0,_,_=>false
 |n+1,a,b=>match a,b with
  | .bool a,.bool b=>(match a,b with|true,true=>true|false,false=>true|_,_=>false)
  | .int .i64 a,.int .i64 b=>a==b
  | .flt .f64 a,.flt .f64 b=>Nat.beq a b
  | .str a,.str b=>a==b
  | .nilp,.nilp=>true
  | .nilf,.nilf=>true
  | .sl a w l,.sl b w' l'=>(match a,b with
   |true,true=>(match Nat.beq w w' with|true=>ya (eqb n) l l'|false=>false)
   |false,false=>(match Nat.beq w w' with|true=>ya (eqb n) l l'|false=>false)
   |_,_=>false)
  | .agg l,.agg l'=>ya (eqb n) l l'
  |_,_=>false
theorem eqbL_eq{eq:V→V→Bool}(h:∀a b,eq a b=true→a=b):∀a b,ya eq a b=true→a=b
 | [],[],_=>rfl
 |a::as,b::bs,h'=>by
  simp only[ya]at h';split at h'
  ·rename_i h1
   rw[h _ _ h1,eqbL_eq h as bs h']
  ·cases h'
 | [],_::_,h'=>by simp[ya]at h'
 |_::_,[],h'=>by simp[ya]at h'
theorem yjl:∀n a b,eqb n a b=true→a=b:=by
 intro n
 induction n with
 |zero=>intro a b h;simp[eqb]at h
 |succ n ih=>
  intro a b h;unfold eqb at h;split at h
  ·split at h<;>simp_all
  ·simpa using h
  ·simpa using h
  ·simpa using h
  ·rfl
  ·rfl
  ·split at h
   ·split at h
    ·rename_i h1;rw[eqbL_eq ih _ _ h,Nat.eq_of_beq_eq_true h1]
    ·cases h
   ·split at h
    ·rename_i h1;rw[eqbL_eq ih _ _ h,Nat.eq_of_beq_eq_true h1]
    ·cases h
   ·cases h
  ·rw[eqbL_eq ih _ _ h]
  ·cases h
abbrev zbt:=List (FuncId×List V×V)
def zdk:zbt→FuncId→List V→Option V
 | [],_,_=>none
 |(g,as,v)::m,f,args=>match Nat.beq g f with
  |true=>(match ya (eqb 12) as args with|true=>some v|false=>zdk m f args)
  |false=>zdk m f args
def fu(T:Tab)(M:zbt):Nat→Ih
 |0=>{loop:=fun _ _ _=>none,call:=fun _ _ _ _ _=>none,yld:=fun _ _ _=>none}
 |n+1=>
  {loop:=(xl T (fu T M n)).loop
   yld:=(xl T (fu T M n)).yld
   call:=fun f args H Fz S=>match H,Fz,S with
    | [],0,[]=>(match zdk M f args with
     |some v=>some (v,[],0,[])
     |none=>(xl T (fu T M n)).call f args [] 0 [])
    |H,Fz,S=>(xl T (fu T M n)).call f args H Fz S}
def MemoOk(T:Tab)(M:zbt):Prop:=∀e∈M,(zu T).call e.1 e.2.1 [] 0 []=some (e.2.2,[],0,[])
theorem MemoOk.nil(T:Tab):MemoOk T []:=fun _ h=>absurd h (List.not_mem_nil)
theorem MemoOk.cons{T:Tab}{M:zbt}{f args v}(h:MemoOk T M)(h':(zu T).call f args [] 0 []=some (v,[],0,[])):MemoOk T ((f,args,v)::M):=by
 intro e he;rcases List.mem_cons.1 he with rfl|he
 ·exact h'
 ·exact h e he
theorem zmp{T:Tab}:∀{M:zbt},MemoOk T M→∀{f args v},zdk M f args=some v→(zu T).call f args [] 0 []=some (v,[],0,[])
 | [],_,f,args,v,h=>by simp[zdk]at h
 |(g,as,u)::m,hM,f,args,v,h=>by
  have hm:MemoOk T m:=fun e he=>hM e (List.mem_cons_of_mem _ he);unfold zdk at h;split at h
  ·rename_i h1
   split at h
   ·rename_i h2
    have h3:=hM (g,as,u) (List.mem_cons_self);have:=Nat.eq_of_beq_eq_true h1;have e:=eqbL_eq (yjl 12) _ _ h2;cases h;subst this e;exact h3
   ·exact zmp hm h
  ·exact zmp hm h
theorem yy3{T:Tab}{M:zbt}(hM:MemoOk T M):∀n,(fu T M n).le (zu T):=by
 intro n
 induction n with
 |zero=>exact⟨fun f args H Fz S r h=>by simp[fu]at h,fun rnd items st r h=>by simp[fu]at h,fun d args S r h=>by simp[fu]at h⟩
 |succ n ih=>
  have hs:(xl T (fu T M n)).le (zu T):=((zc4 T ih.apx).le).trans (zc3 T);refine⟨fun f args H Fz S r h=> ?_,hs.loop,hs.yld⟩;simp only[fu]at h;split at h
  ·split at h
   ·rename_i h1
    cases h;exact zmp hM h1
   ·exact hs.call _ _ _ _ _ _ h
  ·exact hs.call _ _ _ _ _ _ h
theorem q6{T:Tab}{M:zbt}(hM:MemoOk T M)(n:Nat){f args r}(h:(fu T M n).call f args [] 0 []=some r):(zu T).call f args [] 0 []=some r:=(yy3 hM n).call _ _ _ _ _ _ h
theorem yh0:∀rs:List Nat,xp 0 rs=rs
 | []=>rfl
 |x::r=>by
  have:Nat.blt x 0=false:=by simp[Nat.blt,Nat.ble]
  simp only[xp,this,yh0 r]
def zot(T:Tab)(f:Nat)(b:Nat)(k:V→Prog)(q:V×zw×Nat×xt):List Nat→Prog:=fun rs=>
 jr (xr (z9 [] rs b) (pick q.2.1 rs)) (jz (z9 [] rs b) q.2.2.1 rs (match q.2.2.2 with| []=>toP (qt T f (xw (z9 [] rs b) q.1) fun v=>some (k v))|_=> .fail))
@[go_sem]theorem go_brN{α:Type}{ih:Ih}{T:Tab}{f:Nat}{args:List V}(hb:T.byref f=true)(hids:zt args= [])(hy:xj args=false)(k:V→Prog)
  {H:zw}{Fz:Nat}{S:xt}{rd wr fr:Nat}{sk:Bool}{K:V→zw→Nat→xt→FP→Option α}:
  (callP ih T f args k).go none H Fz S ⟨rd,wr,fr,sk⟩ K=zn (ih.call f args [] 0 []) fun q=>zn (reach 10000 (idsV q.1) [] q.2.1) fun rs=>(zot T f H.length k q rs).go none H Fz S ⟨rd,wr,fr,sk⟩ K:=by
 unfold callP;rw[hb];simp only;rw[hids,show(10000:Nat)=9999+1 from rfl];rw[reachP];simp only[List.reverse_nil,maskP,rowsP,xr,withStk,hy];rw[ze1 _ _ hids,zbl];cases ih.call f args [] 0 []with
 |none=>rfl
 |some q=>
  obtain⟨v,H',Fz',S'⟩:=q;simp only[zn];rw[zbl];simp only[List.length_nil,List.range_zero,List.nil_append];cases reach (9999+1) (idsV v) [] H' with
  |none=>rfl
  |some rs=>
   simp only[zn];rw[zh6];simp only[zot,yh0,List.take_zero,xr,vy];cases S'<;>rfl
@[go_sem]theorem afterB_eq(T:Tab)(f:Nat)(b:Nat)(k:V→Prog)(v:V)(H':zw)(Fz':Nat)(rs:List Nat):zot T f b k (v,H',Fz',[]) rs=jr (xr (z9 [] rs b) (pick H' rs)) (jz (z9 [] rs b) Fz' rs (toP (qt T f (xw (z9 [] rs b) v) fun v=>some (k v)))):=rfl
@[go_sem]theorem backId_0(rs:List Nat)(b x:Nat):z9 [] rs b x=b+idx rs x:=by
 have:Nat.blt x 0=false:=by simp[Nat.blt,Nat.ble]
 simp only[z9,List.length_nil,this]
@[go_sem]theorem newRowsP_nil(k:Prog):jr [] k=k:=rfl
@[go_sem]theorem newRowsP_c(b f:Bool)(t:TypeId)(l:List V)(rs:zw)(k:Prog):jr (.cells b f t l::rs) k= .new (.cells b f t l) (jr rs k):=rfl
@[go_sem]theorem frzAllP_nil(g:Nat→Nat)(Fz:Nat)(k:Prog):jz g Fz [] k=k:=rfl
@[go_sem]theorem frzAllP_0(g:Nat→Nat)(x:Nat)(r:List Nat)(k:Prog):jz g 0 (x::r) k=jz g 0 r k:=by simp[jz]
section
variable {T:Tab}
@[go_sem]theorem callV_yld(ih:Ih)(n:Nat)(args:List V)(k:V→Prog):callV ih T (.yld n) args k=stowLP T args fun args=>needP (!xj args)<| .stk fun S=>optP (ih.yld n args S) fun r=> .setStk r.2 (k (.bool r.1)):=rfl
@[go_sem]theorem mapH_yld(g:Nat→Nat)(n:Nat):xw g (.yld n)= .yld n:=rfl
theorem ylt{S:xt}{own own':Own}(hd:own.done=false){args:List V}(hl:own.ps.length=args.length){jump:Option Code}{H':zw}{Fz':Nat}
  (h:runK (zu T) T true ql [.code own.assign,.beginRound,.code own.body] ⟨own.fn,own.nt,own.H.length,own.ps.zip args++own.env,own.H,own.Fz,S⟩=some (.round jump,H',Fz',S))(he:zas T own H' Fz' jump=some own'):
  (zu T).yld S.length args (S++ [own])=some (jump.isNone,S++ [own']):=by
 rw[yvp];simp[xl,hd,hl,h,he,need]
theorem zba{S:xt}{own:Own}(hk:T.keep own.fn 1000000=none)(hd:own.done=false){args:List V}(hl:own.ps.length=args.length){jump:Option Code}{H':zw}{Fz':Nat}
  (h:runK (zu T) T true ql [.code own.assign,.beginRound,.code own.body] ⟨own.fn,own.nt,own.H.length,own.ps.zip args++own.env,own.H,own.Fz,S⟩=some (.round jump,H',Fz',S)):
  (zu T).yld S.length args (S++ [own])=some (jump.isNone,S++ [{own with H:=H',Fz:=Fz',done:=jump.isSome,pending:=jump}]):=
 ylt hd hl h (by unfold zas;rw[hk])
noncomputable def qf(T:Tab)(d:Nat):List V→xt→Option (Bool×xt)
 | [],S=>some (true,S)
 |x::r,S=>match (zu T).yld d [x] S with
  |some (true,S')=>qf T d r S'
  |o=>o
theorem xda{args caps:List V}{g:Nat}(hy:xj caps=false):zax (.fn g caps)=false∧zd1 args caps=args++caps:=by
 cases caps with
 |nil=>exact⟨rfl,rfl⟩
 |cons c r=>cases c<;>first|exact⟨rfl,rfl⟩|(simp[xj,zr]at hy)
theorem zbf{rnd:Bool}{n f' nt fp:Nat}{env:Den.Env}{H:zw}{Fz:Nat}{S:xt}{f:Operand}{ps:Array Nat}{as body:Code}{k:List Item}{g:Nat}{caps:List V}
  (hf:St.eval ⟨f',nt,fp,env,H,Fz,S⟩ f= .fn g caps)(hp:zt caps= [])(hy:xj caps=false)(hb:T.byref g=false)(hq:T.prim g=none)(hr:zcw T g)(hps:zab nt ps.toList=true){v:V}{H':zw}{Fz':Nat}{own':Own}
  (hc:(zu T).call g (.yld S.length::caps) [] 0 (S++ [⟨f',nt,env,H,Fz,ps.toList,as,body,false,none,fp⟩])=some (v,H',Fz',S++ [own'])):
  runK (zu T) T rnd (n+1) (.code (.rangeFunc f ps as body)::k) ⟨f',nt,fp,env,H,Fz,S⟩=runK (zu T) T rnd n (match own'.pending with|some c=> .code c::k|none=>k) ⟨own'.fn,own'.nt,fp,own'.env,own'.H,own'.Fz,S⟩:=by
 have h1:pureV (.fn g caps)=true:=by simp[pureV,idsV,hp]
 have h2:pureL (.yld S.length::caps)=true:=by simp[pureL,zt,idsV,hp]
 have h3:xj (.yld S.length::caps)=true:=rfl;have h4:yh3 T (.fn g caps)=false:=hb;obtain⟨h5,h6⟩:=xda (args:= [.yld S.length]) (g:=g) hy;simp only[runK,hps,need,hf,wj,h1,Prog.go,h4,h5,Bool.not_false];simp only[callV,callP,hb,hq,h6,List.cons_append,List.nil_append,stowLP,h2,h3,withStk,FP.none];simp[Prog.go,hc,optP,toP,hr];cases own'.pending<;>rfl
end
def fg(T:Tab)(M:FuncId→List V→Option V):Nat→Ih
 |0=>{loop:=fun _ _ _=>none,call:=fun _ _ _ _ _=>none,yld:=fun _ _ _=>none}
 |n+1=>
  {loop:=(xl T (fg T M n)).loop
   yld:=(xl T (fg T M n)).yld
   call:=fun f args H Fz S=>match H,Fz,S with
    | [],0,[]=>(match M f args with
     |some v=>some (v,[],0,[])
     |none=>(xl T (fg T M n)).call f args [] 0 [])
    |H,Fz,S=>(xl T (fg T M n)).call f args H Fz S}
theorem yy5{T:Tab}{M:FuncId→List V→Option V}(hM:∀f args v,M f args=some v→(zu T).call f args [] 0 []=some (v,[],0,[])):∀n,(fg T M n).le (zu T):=by
 intro n
 induction n with
 |zero=>exact⟨fun f args H Fz S r h=>by simp[fg]at h,fun rnd items st r h=>by simp[fg]at h,fun d args S r h=>by simp[fg]at h⟩
 |succ n ih=>
  have hs:(xl T (fg T M n)).le (zu T):=((zc4 T ih.apx).le).trans (zc3 T);refine⟨fun f args H Fz S r h=> ?_,hs.loop,hs.yld⟩;simp only[fg]at h;split at h
  ·split at h
   ·rename_i h1
    cases h;exact hM _ _ _ h1
   ·exact hs.call _ _ _ _ _ _ h
  ·exact hs.call _ _ _ _ _ _ h
theorem zdl{T:Tab}{M:FuncId→List V→Option V}(hM:∀f args v,M f args=some v→(zu T).call f args [] 0 []=some (v,[],0,[]))(n:Nat){f args r}(h:(fg T M n).call f args [] 0 []=some r):(zu T).call f args [] 0 []=some r:=(yy5 hM n).call _ _ _ _ _ _ h
section
variable {α:Type} {T:Tab}
theorem zk6{x y:Nat}(hxy:x≠y){H:zw}{b1 b2:Bool}{t1 t2:TypeId}{l1 l2:List V}(hx:H[x]? =some (.cells b1 true t1 l1))(hy:H[y]? =some (.cells b2 false t2 l2))(hl:zt l2= [x])(n:Nat)(k:List Nat→Prog)
  {slot:Option Nat}{Fz:Nat}{S:xt}{rd wr fr:Nat}{sk:Bool}{K:V→zw→Nat→xt→FP→Option α}:
  (reachP (n+4) [x,y] [] k).go slot H Fz S ⟨rd,wr,fr,sk⟩ K=(k [x,y]).go slot H Fz S ⟨rd|||bit x|||bit y,wr,fr,sk⟩ K:=by
 have e1:Nat.beq y x=false:=by rw[xn];simpa using fun h=>hxy h.symm
 have e2:Nat.beq x x=true:=by rw[xn];simp
 rw[reachP];simp only[List.any_nil];rw[go_get,hx];simp only[zn];rw[reachP];simp only[List.any_cons,List.any_nil,e1,Bool.or_false];rw[go_get,hy];simp only[zn,hl,List.cons_append,List.nil_append];rw[reachP];simp only[List.any_cons,e2,Bool.or_true,Bool.true_or];simp only[reachP,List.reverse_cons,List.reverse_nil,List.nil_append,List.cons_append]
theorem yqb{x y:Nat}(hxy:x≠y){H:zw}{b1 b2:Bool}{t1 t2:TypeId}{l1 l2:List V}(hx:H[x]? =some (.cells b1 false t1 l1))(hy:H[y]? =some (.cells b2 true t2 l2))(hl:zt l1= [y])(n:Nat)(k:List Nat→Prog)
  {slot:Option Nat}{Fz:Nat}{S:xt}{rd wr fr:Nat}{sk:Bool}{K:V→zw→Nat→xt→FP→Option α}:
  (reachP (n+4) [x] [] k).go slot H Fz S ⟨rd,wr,fr,sk⟩ K=(k [x,y]).go slot H Fz S ⟨rd|||bit x|||bit y,wr,fr,sk⟩ K:=by
 have e1:Nat.beq y x=false:=by rw[xn];simpa using fun h=>hxy h.symm
 rw[reachP];simp only[List.any_nil];rw[go_get,hx];simp only[zn,hl,List.cons_append,List.nil_append];rw[reachP];simp only[List.any_cons,List.any_nil,e1,Bool.or_false];rw[go_get,hy];simp only[zn];simp only[reachP,List.reverse_cons,List.reverse_nil,List.nil_append,List.cons_append]
theorem zh5{ih:Ih}{f:Nat}{args:List V}{x y:Nat}(hb:T.byref f=true)(hy:xj args=false)(k:V→Prog)
  {H:zw}{Fz:Nat}{S:xt}{rd wr fr:Nat}{sk:Bool}{K:V→zw→Nat→xt→FP→Option α}{rx ry rx' ry':Row}{args':List V}{rows':zw}{v:V}
  (hreach:∀k':List Nat→Prog,(reachP 10000 (zt args) [] k').go none H Fz S ⟨rd,wr,fr,sk⟩ K=(k' [x,y]).go none H Fz S ⟨rd|||bit x|||bit y,wr,fr,sk⟩ K)
  (hx:H[x]? =some rx)(hyy:H[y]? =some ry)(hzx:Fz.testBit x=false)(hzy:Fz.testBit y=false)
  (ha:qu (idx [x,y]) args=args')(hw:xr (idx [x,y]) [rx,ry]=rows')(hc:ih.call f args' rows' 0 []=some (v,[rx',ry'],0,[]))
  (hrs:reach 10000 ([0,1]++idsV v) [] [rx',ry']=some [0,1]):
  (callP ih T f args k).go none H Fz S ⟨rd,wr,fr,sk⟩ K=(toP (qt T f (xw (z9 [x,y] [] H.length) v) fun v=>some (k v))).go none ((H.set x (qe (z9 [x,y] [] H.length) rx')).set y (qe (z9 [x,y] [] H.length) ry')) Fz S
   ⟨rd|||bit x|||bit y|||bit x|||bit y,wr|||bit x|||bit y|||bit x|||bit y,fr,sk⟩ K:=by
 have l1:x<H.length:=(List.getElem?_eq_some_iff.1 hx).1;have l2:y<H.length:=(List.getElem?_eq_some_iff.1 hyy).1;unfold callP;rw[hb];simp only;rw[hreach];simp only[maskP];rw[zfa,hzx];simp only;rw[zfa,hzy];simp only[rowsP];rw[go_get,hx];simp only[zn];rw[go_get,hyy];simp only[zn,List.reverse_cons,List.reverse_nil,List.nil_append,List.cons_append,hy,withStk];rw[ha,hw,zbl,hc];simp only[zn];have hrs':List.range [x,y].length++idsV v= [0,1]++idsV v:=rfl;rw[zbl,hrs',hrs];simp only[zn];have hn:xp [x,y].length [0,1]= []:=rfl;rw[hn,zh6];simp only[pick,xr,jr,vy,List.length_cons,List.length_nil,List.take_succ_cons,List.take_zero,List.take_nil];rw[zdr];simp only[decide_eq_true l1,need];rw[zdr];simp only[List.length_set,decide_eq_true l2,need,jz,Nat.zero_testBit]
end
section
variable (T:Tab)
def zii(id a n:Nat)(e:TypeId)(k:Prog):Row→Prog
 | .cells false fl ety l=>needP (T.size ety==T.size e&&zg (T.size e) (T.zero e)) (.set id (.cells false (fl&&pureV (T.zero e)) ety (l.take a++(List.replicate n (T.zero e)++l.drop (a+n)))) k)
 |_=> .fail
def zfn(d:TD)(x:V)(k:Prog):Prog:=match d,x with
 | .slice e,.sub id a n=> .isFz id fun z=>needP (!z) (.get id (zii T id a n e k))
 | .slice _,.sl _ _ []=>k
 |_,_=> .fail
@[go_sem]theorem bi_clear(t:TypeId)(ts:List TypeId)(x:V)(k:V→Prog):j4 T .clear (t::ts) [x] k=zfn T (T.td t) x (k (.tup [])):=by
 cases x with
 |sub id a n=>
  simp only[j4,zfn];cases T.td t<;>(try rfl);simp only;congr 1;funext z;cases z
  ·simp only[Bool.not_false,needP]
   congr 1;funext row;unfold zii;cases row with
   |cells b fl ety l=>cases b<;>simp only[xn,needP]
   |_=>rfl
  ·rfl
 |sl b z l=>cases l<;>(simp only[j4,zfn];cases T.td t<;>rfl)
 |_=>simp only[j4,zfn];cases T.td t<;>rfl
@[go_sem]theorem clrP_sub(e:TypeId)(id a n:Nat)(k:Prog):zfn T (.slice e) (.sub id a n) k= .isFz id fun z=>needP (!z) (.get id (zii T id a n e k)):=rfl
@[go_sem]theorem clrRow_c(id a n:Nat)(e ety:TypeId)(fl:Bool)(l:List V)(k:Prog):zii T id a n e k (.cells false fl ety l)=
  needP (T.size ety==T.size e&&zg (T.size e) (T.zero e)) (.set id (.cells false (fl&&pureV (T.zero e)) ety (l.take a++(List.replicate n (T.zero e)++l.drop (a+n)))) k):=rfl
end
def eqA:V→V→Bool
 | .ref a,.ref b=>Nat.beq a b
 | .int .i64 a,.int .i64 b=>a==b
 | .fn f [],.fn g []=>Nat.beq f g
 |_,_=>false
theorem yy9(a b:V)(h:eqA a b=true):a=b:=by
 unfold eqA at h;split at h
 ·rw[Nat.eq_of_beq_eq_true h]
 ·simpa using h
 ·rw[Nat.eq_of_beq_eq_true h]
 ·cases h
structure FactG where
 f:FuncId
 args:List V
 ty:TypeId
 i:List V
 v:V
 o:List V
def FactG.ok(T:Tab)(q:FactG):Prop:=(zu T).call q.f q.args [.cells false true q.ty q.i] 0 []=some (q.v,[.cells false true q.ty q.o],0,[])
def zew:List FactG→FuncId→List V→TypeId→List V→Option (V×zw×Nat×xt)
 | [],_,_,_,_=>none
 |q::L,f,args,ty,l=>match Nat.beq q.f f&&(Nat.beq q.ty ty&&(ya eqA q.args args&&ya (eqb 6) q.i l))with
  |true=>some (q.v,[.cells false true q.ty q.o],0,[])
  |false=>zew L f args ty l
theorem yh6{T:Tab}:∀{L:List FactG},(∀q∈L,q.ok T)→∀{f args ty l r},zew L f args ty l=some r→(zu T).call f args [.cells false true ty l] 0 []=some r
 | [],_,f,args,ty,l,r,h=>by simp[zew]at h
 |q::L,hL,f,args,ty,l,r,h=>by
  unfold zew at h;split at h
  ·rename_i h1
   simp only[Bool.and_eq_true]at h1;obtain⟨a1,a2,a3,a4⟩:=h1;have e1:=Nat.eq_of_beq_eq_true a1;have e2:=Nat.eq_of_beq_eq_true a2;have e3:=eqbL_eq yy9 _ _ a3;have e4:=eqbL_eq (yjl 6) _ _ a4;cases h;have:=hL q (List.mem_cons_self);unfold FactG.ok at this;rw[←e1,←e2,←e3,←e4];exact this
  ·exact yh6 (fun q hq=>hL q (List.mem_cons_of_mem _ hq)) h
def g6(T:Tab)(M:FuncId→List V→Option V)(L:List FactG):Nat→Ih
 |0=>{loop:=fun _ _ _=>none,call:=fun _ _ _ _ _=>none,yld:=fun _ _ _=>none}
 |n+1=>
  {loop:=(xl T (g6 T M L n)).loop
   yld:=(xl T (g6 T M L n)).yld
   call:=fun f args H Fz S=>match H,Fz,S with
    | [],0,[]=>(match M f args with
     |some v=>some (v,[],0,[])
     |none=>(xl T (g6 T M L n)).call f args [] 0 [])
    | [.cells false true ty l],0,[]=>(match zew L f args ty l with
     |some r=>some r
     |none=>(xl T (g6 T M L n)).call f args [.cells false true ty l] 0 [])
    |H,Fz,S=>(xl T (g6 T M L n)).call f args H Fz S}
theorem yy4{T:Tab}{M:FuncId→List V→Option V}{L:List FactG}(hM:∀f args v,M f args=some v→(zu T).call f args [] 0 []=some (v,[],0,[]))(hL:∀q∈L,q.ok T):∀n,(g6 T M L n).le (zu T):=by
 intro n
 induction n with
 |zero=>exact⟨fun f args H Fz S r h=>by simp[g6]at h,fun rnd items st r h=>by simp[g6]at h,fun d args S r h=>by simp[g6]at h⟩
 |succ n ih=>
  have hs:(xl T (g6 T M L n)).le (zu T):=((zc4 T ih.apx).le).trans (zc3 T);refine⟨fun f args H Fz S r h=> ?_,hs.loop,hs.yld⟩;simp only[g6]at h;split at h
  ·split at h
   ·rename_i h1
    cases h;exact hM _ _ _ h1
   ·exact hs.call _ _ _ _ _ _ h
  ·split at h
   ·rename_i h1
    cases h;exact yh6 hL h1
   ·exact hs.call _ _ _ _ _ _ h
  ·exact hs.call _ _ _ _ _ _ h
theorem zev{T:Tab}{M:FuncId→List V→Option V}{L:List FactG}(hM:∀f args v,M f args=some v→(zu T).call f args [] 0 []=some (v,[],0,[]))(hL:∀q∈L,q.ok T)(n:Nat){f args H r}(h:(g6 T M L n).call f args H 0 []=some r):(zu T).call f args H 0 []=some r:=(yy4 hM hL n).call _ _ _ _ _ _ h
theorem zff(T:Tab):∀q∈([]:List FactG),q.ok T:=fun _ h=>absurd h (List.not_mem_nil)
theorem zci{T:Tab}{q:FactG}{L:List FactG}(h:q.ok T)(hL:∀q∈L,q.ok T):∀r∈q::L,r.ok T:=by
 intro r hr;rcases List.mem_cons.1 hr with rfl|hr
 ·exact h
 ·exact hL r hr
section
variable {α:Type} {T:Tab}
theorem zgy{x y:Nat}(hxy:x≠y){H:zw}{b1 b2:Bool}{t1 t2:TypeId}{l1 l2:List V}(hx:H[x]? =some (.cells b1 true t1 l1))(hy:H[y]? =some (.cells b2 true t2 l2))(n:Nat)(k:List Nat→Prog)
  {slot:Option Nat}{Fz:Nat}{S:xt}{rd wr fr:Nat}{sk:Bool}{K:V→zw→Nat→xt→FP→Option α}:
  (reachP (n+4) [x,y] [] k).go slot H Fz S ⟨rd,wr,fr,sk⟩ K=(k [x,y]).go slot H Fz S ⟨rd|||bit x|||bit y,wr,fr,sk⟩ K:=by
 have e1:Nat.beq y x=false:=by rw[xn];simpa using fun h=>hxy h.symm
 rw[reachP];simp only[List.any_nil];rw[go_get,hx];simp only[zn];rw[reachP];simp only[List.any_cons,List.any_nil,e1,Bool.or_false];rw[go_get,hy];simp only[zn];simp only[reachP,List.reverse_cons,List.reverse_nil,List.nil_append,List.cons_append]
theorem zh4{ih:Ih}{f:Nat}{args:List V}{x y:Nat}(hb:T.byref f=true)(hy:xj args=false)(k:V→Prog)
  {H:zw}{Fz:Nat}{S:xt}{rd wr fr:Nat}{sk:Bool}{K:V→zw→Nat→xt→FP→Option α}{rx ry rx' ry':Row}{args':List V}{rows':zw}{v:V}{z:Bool}
  (hreach:∀k':List Nat→Prog,(reachP 10000 (zt args) [] k').go none H Fz S ⟨rd,wr,fr,sk⟩ K=(k' [x,y]).go none H Fz S ⟨rd|||bit x|||bit y,wr,fr,sk⟩ K)
  (hx:H[x]? =some rx)(hyy:H[y]? =some ry)(hzx:Fz.testBit x=false)(hzy:Fz.testBit y=z)
  (ha:qu (idx [x,y]) args=args')(hw:xr (idx [x,y]) [rx,ry]=rows')(hc:ih.call f args' rows' (cond z 2 0) []=some (v,[rx',ry'],2,[]))
  (hrs:reach 10000 ([0,1]++idsV v) [] [rx',ry']=some [0,1]):
  (callP ih T f args k).go none H Fz S ⟨rd,wr,fr,sk⟩ K=(toP (qt T f (xw (z9 [x,y] [] H.length) v) fun v=>some (k v))).go none ((H.set x (qe (z9 [x,y] [] H.length) rx')).set y (qe (z9 [x,y] [] H.length) ry')) (Fz|||bit y) S
   ⟨rd|||bit x|||bit y|||bit x|||bit y,wr|||bit x|||bit y|||bit x|||bit y,fr|||bit y,sk⟩ K:=by
 have l1:x<H.length:=(List.getElem?_eq_some_iff.1 hx).1;have l2:y<H.length:=(List.getElem?_eq_some_iff.1 hyy).1;have hbk:z9 [x,y] [] H.length 1=y:=rfl;unfold callP;rw[hb];simp only;rw[hreach];simp only[maskP];rw[zfa,hzx];simp only;rw[zfa,hzy];simp only[rowsP];rw[go_get,hx];simp only[zn];rw[go_get,hyy];simp only[zn,List.reverse_cons,List.reverse_nil,List.nil_append,List.cons_append,hy,withStk];rw[ha,hw,zbl]
 have fin:∀w:Nat,ih.call f args' rows' w []=some (v,[rx',ry'],2,[])→∀Q,(zn (ih.call f args' rows' w []) Q:Option α)=Q (v,[rx',ry'],2,[]):=by
  intro w hw' Q;rw[hw'];rfl
 refine Eq.trans (fin _ (by cases z<;>exact hc) _) ?_;have hrs':List.range [x,y].length++idsV v= [0,1]++idsV v:=rfl;rw[zbl,hrs',hrs];simp only[zn];have hn:xp [x,y].length [0,1]= []:=rfl;rw[hn,zh6];simp only[pick,xr,jr,vy,List.length_cons,List.length_nil,List.take_succ_cons,List.take_zero,List.take_nil];rw[zdr];simp only[decide_eq_true l1,need];rw[zdr];have t0:Nat.testBit 2 0=false:=rfl;have t1:Nat.testBit 2 1=true:=rfl;simp only[List.length_set,decide_eq_true l2,need,jz,t0,t1];rw[yxo,hbk]
end
section
variable {T:Tab} {k:V→Prog}
theorem yxc(a b:Int):(if b>a then b else a)=max a b:=by
 by_cases h:b>a
 ·rw[if_pos h];omega
 ·rw[if_neg h];omega
theorem yxb(a b:Int):(if b<a then b else a)=min a b:=by
 by_cases h:b<a
 ·rw[if_pos h];omega
 ·rw[if_neg h];omega
@[go_sem]theorem bi_max2(kd:IntKind)(a b:Int)(ts:List TypeId):j4 T .max ts [.int kd a,.int kd b] k=k (.int kd (max a b)):=by
 simp only[j4,zey,asInt,toP,yxc]
@[go_sem]theorem bi_min2(kd:IntKind)(a b:Int)(ts:List TypeId):j4 T .min ts [.int kd a,.int kd b] k=k (.int kd (min a b)):=by
 simp only[j4,zeu,asInt,toP,yxb]
end
end Go.Den
namespace Go.Den
open Go
section
variable {T:Tab} {α:Type} {k:V→Option α}
def ze8:TD→Bool
 | .slice _=>true
 |_=>false
@[go_sem]theorem isSl_s(e:TypeId):ze8 (.slice e)=true:=rfl
theorem zm2{d:TD}(h:ze8 d=true):∃e,d= .slice e:=by cases d<;>first|exact⟨_,rfl⟩|cases h
@[go_sem]theorem bin_ref_eql(t id z:Nat)(l:List V)(h:ze8 (T.td t)=true):xb T .eql t (.ref id) (.sl false z l) k=k (.bool false):=by
 obtain⟨e,h⟩:=zm2 h;simp only[xb,ue,eqT,h,zn]
@[go_sem]theorem bin_sub_eql(t id a b z:Nat)(l:List V)(h:ze8 (T.td t)=true):xb T .eql t (.sub id a b) (.sl false z l) k=k (.bool false):=by
 obtain⟨e,h⟩:=zm2 h;simp only[xb,ue,eqT,h,zn]
@[go_sem]theorem bin_sl_eql(t z z':Nat)(a:Bool)(l l':List V)(h:ze8 (T.td t)=true):xb T .eql t (.sl a z l) (.sl false z' l') k=k (.bool (!a)):=by
 obtain⟨e,h⟩:=zm2 h;simp only[xb,ue,eqT,h,zn]
theorem ytb{p:Prop} [Decidable p](h:p)(x:Option α):need (decide p) x=x:=by rw[decide_eq_true h];rfl
end
end Go.Den
namespace Go.Den
open Go
@[go_sem]theorem gcO_eq(fp:Nat)(vs:List V)(H:zw):gcO fp vs H=need (Nat.ble fp H.length) (reach 10000 (wu (H.take fp)++zt vs) (List.range fp).reverse H):=rfl
@[go_sem]theorem rowsIds_nil:wu []= []:=rfl
@[go_sem]theorem rowsIds_f(b:Bool)(t:TypeId)(l:List V)(r:zw):wu (.cells b false t l::r)=zt l++wu r:=rfl
@[go_sem]theorem rowsIds_t(b:Bool)(t:TypeId)(l:List V)(r:zw):wu (.cells b true t l::r)=wu r:=rfl
end Go.Den
namespace Go.Den
open Go
theorem vp{T:Tab}{k:V→Prog}(e id:Nat)(xs:List V)(h:xs.isEmpty=false)(fl:Bool)(ety:TypeId)(l:List V):zjt T e id xs k (.cells false fl ety l)=
  needP (T.size ety==T.size e) (needP (decide ((l++xs).length<maxRow)) (.set id .dead (newP (.cells false (fl&&pureL xs) ety (l++xs)) fun id'=>k (.ref id')))):=by
 cases xs with
 |nil=>cases h
 |cons x r=>rfl
section
variable {T:Tab} {ih:Ih}
def ylj(T:Tab)(f:Nat)(ids:List Nat)(k:V→Prog)(q:V×zw×Nat×xt):Prog:=
 optP (reach 10000 (List.range ids.length++idsV q.1) [] q.2.1) fun rs=> .base fun b=>
  vy ids (xr (z9 ids (xp ids.length rs) b) (q.2.1.take ids.length)) (jr (xr (z9 ids (xp ids.length rs) b) (pick q.2.1 (xp ids.length rs)))
   (jz (z9 ids (xp ids.length rs) b) q.2.2.1 rs (match q.2.2.2 with| []=>toP (qt T f (xw (z9 ids (xp ids.length rs) b) q.1) fun v=>some (k v))|_=> .fail)))
theorem x8{f:Nat}{args:List V}{k:V→Prog}(h:T.byref f=true)(hy:xj args=false):callP ih T f args k=reachP 10000 (zt args) [] fun ids=>maskP ids 0 0 fun Fz=>rowsP ids [] fun rows=>optP (ih.call f (qu (idx ids) args) (xr (idx ids) rows) Fz []) (ylj T f ids k):=by
 unfold callP;rw[h];simp only[hy,withStk];rfl
@[go_sem]theorem afterR_eq(f:Nat)(ids:List Nat)(k:V→Prog)(v:V)(H':zw)(Fz':Nat):ylj T f ids k (v,H',Fz',[])=
 optP (reach 10000 (List.range ids.length++idsV v) [] H') fun rs=> .base fun b=>
  vy ids (xr (z9 ids (xp ids.length rs) b) (H'.take ids.length)) (jr (xr (z9 ids (xp ids.length rs) b) (pick H' (xp ids.length rs)))
   (jz (z9 ids (xp ids.length rs) b) Fz' rs (toP (qt T f (xw (z9 ids (xp ids.length rs) b) v) fun v=>some (k v))))):=rfl
variable (n id:Nat) (w seen:List Nat) (k:List Nat→Prog)
def zk5:Row→Prog
 | .cells _ false _ l=>reachP n (zt l++w) (id::seen) k
 |_=>reachP n w (id::seen) k
@[go_sem]theorem reachP_nil:reachP (n+1) [] seen k=k seen.reverse:=rfl
@[go_sem]theorem reachP_cons:reachP (n+1) (id::w) seen k=br (seen.any fun x=>id==x) (reachP n w seen k) (.get id (zk5 n id w seen k)):=by
 rw[reachP];have e:seen.any (Nat.beq id)=seen.any fun x=>id==x:=by congr 1;funext x;rw[xn]
 rw[e];cases seen.any fun x=>id==x
 ·rfl
 ·rfl
@[go_sem]theorem reachPR_t(b:Bool)(t:TypeId)(l:List V):zk5 n id w seen k (.cells b true t l)=reachP n w (id::seen) k:=rfl
@[go_sem]theorem reachPR_f(b:Bool)(t:TypeId)(l:List V):zk5 n id w seen k (.cells b false t l)=reachP n (zt l++w) (id::seen) k:=rfl
variable (m:Nat) (r:List Nat) (k':Nat→Prog) (kh:zw→Prog)
@[go_sem]theorem maskP_nil:maskP [] n m k'=k' m:=rfl
@[go_sem]theorem maskP_cons:maskP (id::r) n m k'= .isFz id fun z=>maskP r (n+1) (cond z (m|||bit n) m) k':=by
 rw[maskP];congr 1
@[go_sem]theorem rowsP_nil(acc:zw):rowsP [] acc kh=kh acc.reverse:=rfl
@[go_sem]theorem rowsP_cons(acc:zw):rowsP (id::r) acc kh= .get id fun row=>rowsP r (row::acc) kh:=rfl
@[go_sem]theorem setRowsP_nil(p:Prog):vy [] [] p=p:=rfl
@[go_sem]theorem setRowsP_cons(row:Row)(rows:zw)(p:Prog):vy (id::r) (row::rows) p= .set id row (vy r rows p):=rfl
@[go_sem]theorem newIds_nil:xp n []= []:=rfl
@[go_sem]theorem newIds_cons(x:Nat):xp n (x::r)=cond (decide (x<n)) (xp n r) (x::xp n r):=by
 rw[xp];have:Nat.blt x n=decide (x<n):=by rw[Bool.eq_iff_iff];simp[Nat.blt,Nat.succ_le_iff]
 rw[this];cases decide (x<n)<;>rfl
theorem x9(ids new:List Nat)(at_ x:Nat):z9 ids new at_ x=cond (decide (x<ids.length)) (match ids[x]? with|some id=>id|none=>0) (at_+idx new x):=by
 unfold z9;have:Nat.blt x ids.length=decide (x<ids.length):=by rw[Bool.eq_iff_iff];simp[Nat.blt,Nat.succ_le_iff]
 rw[this];cases decide (x<ids.length)<;>rfl
theorem x7(g:Nat→Nat)(Fz x:Nat)(p:Prog):jz g Fz (x::r) p=br (Fz.testBit x) (.frz (g x) (jz g Fz r p)) (jz g Fz r p):=by
 rw[jz];cases Fz.testBit x<;>rfl
end
end Go.Den
