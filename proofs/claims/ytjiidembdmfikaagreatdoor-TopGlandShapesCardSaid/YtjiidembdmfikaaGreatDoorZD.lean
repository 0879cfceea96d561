import Derived.Test.YtjiidembdmfikaaGreatDoorZC
import Derived.Laws.Wrap64
set_option linter.all false
set_option maxHeartbeats 8000000
set_option maxRecDepth 100000
namespace Go.Den
open Go
section
variable {P:Program} {T:Tab}
theorem TabOk.get(hT:TabOk P T){t:TypeId}{i:TI}(h:T.ti t=some i):∃inf d,P.info? t=some inf∧P.underlying t=some d∧i.td=qz d∧inf.size=i.size∧inf.bytes=i.bytes∧
  ∃z,inf.zero=some z∧i.zero=q7 z:=by
 obtain⟨inf,d,z,h1,h2,h3,h4,h5,h6,h7⟩:=(hT.ti t i h).ex;exact⟨inf,d,h1,h2,h3,h4,h5,z,h6,h7⟩
theorem zee{t:TypeId}(h:T.td t≠ .other):∃i,T.ti t=some i∧T.td t=i.td:=by
 unfold Tab.td at*;cases hi:T.ti t with
 |none=>simp[hi]at h
 |some i=>exact⟨i,rfl,rfl⟩
theorem xes{d:TypeDesc}{e:TypeId}(h:TD.slice e=qz d):d= .slice e:=by cases d<;>simp[qz]at h;subst h;rfl
theorem xew{d:TypeDesc}{n:Nat}{e:TypeId}(h:TD.array n e=qz d):d= .array n e:=by cases d<;>simp[qz]at h;obtain⟨rfl,rfl⟩:=h;rfl
theorem xev{d:TypeDesc}{k e:TypeId}(h:TD.map k e=qz d):d= .map k e:=by cases d<;>simp[qz]at h;obtain⟨rfl,rfl⟩:=h;rfl
theorem xer{d:TypeDesc}{fs:List (Nat×TypeId)}(h:TD.struct fs=qz d):∃gs:Array Field,d= .struct gs∧fs=gs.toList.map fun f=>(f.offset,f.type):=by
 cases d<;>simp[qz]at h;subst h;exact⟨_,rfl,rfl⟩
theorem zno{d:TypeDesc}(h:TD.bool=qz d):d= .bool:=by cases d<;>simp[qz]at h;rfl
theorem ym9{d:TypeDesc}(h:TD.string=qz d):d= .string:=by cases d<;>simp[qz]at h;rfl
theorem yna{d:TypeDesc}{k:IntKind}(h:TD.int k=qz d):d= .int k:=by cases d<;>simp[qz]at h;subst h;rfl
theorem zid{d:TypeDesc}{k:FloatKind}(h:TD.float k=qz d):d= .float k:=by cases d<;>simp[qz]at h;subst h;rfl
theorem ync{d:TypeDesc}{k:FloatKind}(h:TD.complex k=qz d):d= .complex k:=by cases d<;>simp[qz]at h;subst h;rfl
theorem xet{d:TypeDesc}{e:TypeId}(h:TD.ptr e=qz d):d= .pointer e:=by cases d<;>simp[qz]at h;subst h;rfl
theorem ynb{d:TypeDesc}(h:TD.func=qz d):∃a b c,d= .func a b c:=by cases d<;>simp[qz]at h;exact⟨_,_,_,rfl⟩
theorem TabOk.under(hT:TabOk P T){t:TypeId}{x:TD}(h:T.td t=x)(hx:x≠ .other):∃d,P.underlying t=some d∧x=qz d:=by
 obtain⟨i,hi,ht⟩:=zee (T:=T) (t:=t) (by rw[h];exact hx);obtain⟨inf,d,_,h2,h3,_⟩:=hT.get hi;exact⟨d,h2,by rw[←h,ht,h3]⟩
theorem TabOk.slice(hT:TabOk P T){t e:TypeId}(h:T.td t= .slice e):P.underlying t=some (.slice e):=by
 obtain⟨d,h1,h2⟩:=hT.under h (by simp);rw[h1,xes h2]
theorem TabOk.array(hT:TabOk P T){t e:TypeId}{n:Nat}(h:T.td t= .array n e):P.underlying t=some (.array n e):=by
 obtain⟨d,h1,h2⟩:=hT.under h (by simp);rw[h1,xew h2]
theorem TabOk.mapT(hT:TabOk P T){t k e:TypeId}(h:T.td t= .map k e):P.underlying t=some (.map k e):=by
 obtain⟨d,h1,h2⟩:=hT.under h (by simp);rw[h1,xev h2]
theorem TabOk.string(hT:TabOk P T){t:TypeId}(h:T.td t= .string):P.underlying t=some .string:=by
 obtain⟨d,h1,h2⟩:=hT.under h (by simp);rw[h1,ym9 h2]
theorem TabOk.intT(hT:TabOk P T){t:TypeId}{k:IntKind}(h:T.td t= .int k):P.underlying t=some (.int k):=by
 obtain⟨d,h1,h2⟩:=hT.under h (by simp);rw[h1,yna h2]
theorem TabOk.struct(hT:TabOk P T){t:TypeId}{fs:List (Nat×TypeId)}(h:T.td t= .struct fs):∃gs:Array Field,P.underlying t=some (.struct gs)∧fs=gs.toList.map fun f=>(f.offset,f.type):=by
 obtain⟨d,h1,h2⟩:=hT.under h (by simp);obtain⟨gs,rfl,h3⟩:=xer h2;exact⟨gs,h1,h3⟩
theorem TabOk.size(hT:TabOk P T){t:TypeId}{i:TI}(h:T.ti t=some i)(w:World):(Go.sizeOf t).run P w= .ok (T.size t) w:=by
 obtain⟨inf,d,h1,h2,h3,h4,_⟩:=hT.get h;simp[Go.sizeOf,typeInfo,h1,h4,Tab.size,h]
theorem TabOk.agg(hT:TabOk P T){t:TypeId}{i:TI}(h:T.ti t=some i)(w:World):(Go.isAgg t).run P w= .ok (T.isAgg t) w:=by
 obtain⟨inf,d,h1,h2,h3,h4,_⟩:=hT.get h;simp only[Go.isAgg,Sem.run_bind,run_underlying h2,Result.andThen_ok,Tab.isAgg,h,h3];cases d<;>simp[qz]
theorem TabOk.subT(hT:TabOk P T){t:TypeId}{i:TI}(h:T.ti t=some i){u:TypeId}(hu:u∈(T.td t).subs):∃j,T.ti u=some j:=
 (hT.ti t i h).sub u (by simpa[Tab.td,h]using hu)
theorem zc6(hT:TabOk P T){t:TypeId}{i:TI}(h:T.ti t=some i)(a:Array Value)(off:Nat)(w:World)(u:Value)
  (hu:match T.isAgg t with|true=>u= .agg ((a.toList.drop off).take (T.size t)).toArray|false=>a[off]? =some u):
  (part t a off).run P w= .ok u w:=by
 simp only[part,Sem.run_bind,hT.agg h,Result.andThen_ok];cases hA:T.isAgg t with
 |true=>
  rw[hA]at hu;simp only[if_true,Sem.run_bind,hT.size h,Result.andThen_ok,Sem.run_pure];subst hu;congr 2;apply Array.ext';simp[Array.toList_extract,List.extract_eq_take_drop]
 |false=>
  rw[hA]at hu;simp only[Bool.false_eq_true,if_false];simp only at hu;rw[hu];rfl
theorem zob(a b:ByteArray):(a==b)=(a.data.toList==b.data.toList):=by
 rw[beq_toListBytes,ByteArray.toList_eq,ByteArray.toList_eq]
def Fe(k:FloatKind)(a b:Nat):Prop:=a=b∨((k.decode a).isNaN=true∧(k.decode b).isNaN=true)
theorem ys2(k:FloatKind):(k.decode (qn k)).isNaN=true:=by cases k<;>decide
theorem Rel.fltInv{G:Gh}{k:FloatKind}{a:Nat}{x:Value}(h:Rel G (.flt k a) x):∃b,x= .float k b∧Fe k a b:=by
 cases h with
 |flt=>exact⟨_,rfl,.inl rfl⟩
 |nan _ b h=>exact⟨b,rfl,.inr ⟨ys2 k,h⟩⟩
theorem zdh{d:Ieee.Datum}(h:d.isNaN=true):∃s t,d= .nan s t:=by
 cases d<;>first|exact⟨_,_,rfl⟩|(simp[Ieee.Datum.isNaN]at h)
theorem yk2{k:FloatKind}{a:Nat}(b:Nat)(h:(k.decode a).isNaN=true):k.format.order a b=none:=by
 obtain⟨s,t,h⟩:=zdh h;unfold Ieee.Format.order;rw[show k.format.read a= .nan s t from h];rfl
theorem yk1{k:FloatKind}{b:Nat}(a:Nat)(h:(k.decode b).isNaN=true):k.format.order a b=none:=by
 obtain⟨s,t,h⟩:=zdh h;unfold Ieee.Format.order;rw[show k.format.read b= .nan s t from h];cases k.format.read a<;>rfl
theorem yk3{k:FloatKind}{a a' b b':Nat}(h:Fe k a a')(h':Fe k b b'):k.format.order a b=k.format.order a' b':=by
 rcases h with rfl|⟨h1,h2⟩
 ·rcases h' with rfl|⟨h3,h4⟩
  ·rfl
  ·rw[yk1 _ h3,yk1 _ h4]
 ·rw[yk2 _ h1,yk2 _ h2]
theorem zh5(hT:TabOk P T):∀(n:Nat) (t:TypeId) (x y:V) (r:Bool),eqT T n t x y=some r→∀(G:Gh) (a b:Value) (w:World) (d:Nat),n≤d→Rel G x a→Rel G y b→
  (Op.equalIn d t a b).run P w= .ok r w:=by
 intro n
 induction n with
 |zero=>intro t x y r h;simp[eqT]at h
 |succ n ih=>
  intro t x y r h G a b w d hd hx hy;obtain⟨d,rfl⟩:∃d',d=d'+1:=⟨d- 1,by omega⟩;simp only[eqT]at h;split at h<;>rename_i hd'
  ·obtain⟨u,h1,h2⟩:=hT.under hd' (by simp)
   cases zno h2;cases hx<;>cases hy;simp only[Option.some.injEq]at h;subst h
   all_goals simp[Op.equalIn,run_underlying h1]
  ·obtain⟨u,h1,h2⟩:=hT.under hd' (by simp)
   cases yna h2;cases hx<;>cases hy;split at h
   ·rename_i hk
    simp only[decide_eq_true_eq]at hk;subst hk;simp only[Option.some.injEq]at h;subst h;simp[Op.equalIn,run_underlying h1]
   ·cases h
  ·obtain⟨u,h1,h2⟩:=hT.under hd' (by simp)
   cases zid h2;obtain⟨a',rfl,fa⟩:=hx.fltInv;obtain⟨b',rfl,fb⟩:=hy.fltInv;split at h
   ·rename_i hk
    simp only[decide_eq_true_eq]at hk;subst hk;simp only[Option.some.injEq]at h;subst h;simp[Op.equalIn,run_underlying h1,Op.floatEq,yk3 fa fb]
   ·cases h
  ·obtain⟨u,h1,h2⟩:=hT.under hd' (by simp)
   cases ync h2;cases hx<;>cases hy;split at h
   ·rename_i hk
    simp only[decide_eq_true_eq]at hk;subst hk;simp only[Option.some.injEq]at h;subst h;simp[Op.equalIn,run_underlying h1]
   ·cases h
  ·obtain⟨u,h1,h2⟩:=hT.under hd' (by simp)
   cases ym9 h2;cases hx with|str s1 l1 e1=>
   cases hy with|str s2 l2 e2=>
   simp only[Option.some.injEq]at h;subst h;subst e1 e2;simp[Op.equalIn,run_underlying h1,zob]
  ·have h1:=hT.slice hd'
   simp only[Option.some.injEq]at h;subst h;cases hy;cases hx;simp[Op.equalIn,run_underlying h1]
  ·have h1:=hT.slice hd'
   simp only[Option.some.injEq]at h;subst h;cases hy;cases hx;simp[Op.equalIn,run_underlying h1]
  ·have h1:=hT.slice hd'
   simp only[Option.some.injEq]at h;subst h;cases hy;cases hx<;>simp[Op.equalIn,run_underlying h1]
  ·have h1:=hT.slice hd'
   simp only[Option.some.injEq]at h;subst h;cases hx;cases hy<;>simp[Op.equalIn,run_underlying h1]
  ·have h1:=hT.mapT hd'
   simp only[Option.some.injEq]at h;subst h;cases hx<;>cases hy
   all_goals simp[Op.equalIn,run_underlying h1]
  ·obtain⟨u,h1,h2⟩:=hT.under hd' (by simp)
   obtain⟨_,_,_,rfl⟩:=ynb h2;simp only[Option.some.injEq]at h;subst h;cases hx<;>cases hy
   all_goals simp[Op.equalIn,run_underlying h1]
  ·obtain⟨u,h1,h2⟩:=hT.under hd' (by simp)
   obtain⟨_,_,_,rfl⟩:=ynb h2;simp only[Option.some.injEq]at h;subst h;cases hx<;>cases hy
   all_goals simp[Op.equalIn,run_underlying h1]
  ·obtain⟨u,h1,h2⟩:=hT.under hd' (by simp)
   cases xet h2;simp only[Option.some.injEq]at h;subst h;cases hx<;>cases hy
   all_goals simp[Op.equalIn,run_underlying h1]
  ·split at h
   ·rename_i i hi
    split at h
    ·rename_i hok
     obtain⟨gs,h1,rfl⟩:=hT.struct hd';obtain⟨hs,_,hnm⟩:=(hT.ti t i hi).eq hok;cases hx with|agg _ xs hxs hxr=>
     cases hy with|agg _ ys hys hyr=>
     have hfo:P.fieldsOf t=gs:=by simp[Program.fieldsOf,h1]
     rw[run_equalIn_struct w d t xs ys (by rw[hfo];exact h1) hs,hfo];have hsub:∀f∈gs.toList,∃j,T.ti f.type=some j:=fun f hf=>hT.subT hi (by rw[hd'];simp[TD.subs];exact⟨f,by simpa using hf,rfl⟩);have hnm':∀f∈gs.toList,f.name≠ "_" :=fun f hf=>hnm gs h1 f (by simpa using hf);have hX:LRel G _ xs.toList:=q9.1 ⟨hxs,hxr⟩;have hY:LRel G _ ys.toList:=q9.1 ⟨hys,hyr⟩
     revert hsub hnm'
     generalize gs.toList=fs at h;intro hsub hnm';clear h1 hfo hi hok hs hnm hd'
     induction fs generalizing r with
     |nil=>simp only[List.map_nil,wu,Option.some.injEq]at h;subst h;simp[Op.eqFields]
     |cons f fs ihf=>
      obtain⟨j,hj⟩:=hsub f (List.mem_cons_self ..);simp only[List.map_cons,wu]at h
      have part_ok:∀(cs:List V) (zs:Array Value) (p:V),LRel G cs zs.toList→
        (match T.isAgg f.type with|true=>some (V.agg ((cs.drop f.offset).take (T.size f.type)))|false=>cs[f.offset]?)=some p→
        ∃z,(part f.type zs f.offset).run P w= .ok z w∧Rel G p z:=by
       intro cs zs p hl hp;cases hA:T.isAgg f.type with
       |true=>
        rw[hA]at hp;simp only[Option.some.injEq]at hp;subst hp;exact⟨.agg ((zs.toList.drop f.offset).take (T.size f.type)).toArray,zc6 hT hj zs f.offset w _ (by rw[hA]),((hl.drop _).take _).toAgg (a:=((zs.toList.drop f.offset).take (T.size f.type)).toArray)⟩
       |false=>
        rw[hA]at hp;simp only at hp;obtain⟨z,hz,hr⟩:=hl.get hp;exact⟨z,zc6 hT hj zs f.offset w z (by rw[hA];simpa using hz),hr⟩
      split at h
      ·rename_i pa pb hpa hpb
       obtain⟨za,hza,hra⟩:=part_ok _ _ _ hX hpa;obtain⟨zb,hzb,hrb⟩:=part_ok _ _ _ hY hpb;split at h
       ·rename_i r1 he1
        split at h
        ·rename_i r2 he2
         simp only[Option.some.injEq]at h;subst h;have e1:=ih _ _ _ _ he1 G za zb w d (by omega) hra hrb;have e2:=ihf r2 he2 (fun g hg=>hsub g (List.mem_cons_of_mem _ hg)) (fun g hg=>hnm' g (List.mem_cons_of_mem _ hg));simp only[Op.eqFields,if_pos (hnm' f (List.mem_cons_self ..)),Sem.run_bind,hza,hzb,e1,Result.andThen_ok,Sem.run_ite];cases r1
         ·simp
         ·simpa using e2
        ·cases h
       ·cases h
      ·cases h
    ·cases h
   ·cases h
  ·split at h
   ·rename_i i hi
    split at h
    ·rename_i hok
     have h1:=hT.array hd';rename_i m e as bs _ _;obtain⟨j,hj⟩:=hT.subT hi (u:=e) (by rw[hd'];simp[TD.subs]);cases hx with|agg _ xs hxs hxr=>
     cases hy with|agg _ ys hys hyr=>
     have hX:LRel G _ xs.toList:=q9.1 ⟨hxs,hxr⟩;have hY:LRel G _ ys.toList:=q9.1 ⟨hys,hyr⟩;simp only[Op.equalIn,Sem.run_bind,run_underlying h1,Result.andThen_ok,hT.size hj]
     have part_ok:∀(cs:List V) (zs:Array Value) (p:V) (i:Nat),LRel G cs zs.toList→
       (match T.isAgg e with|true=>some (V.agg ((cs.drop (i*T.size e)).take (T.size e)))|false=>cs[i*T.size e]?)=some p→
       ∃z,(part e zs (i*T.size e)).run P w= .ok z w∧Rel G p z:=by
      intro cs zs p i hl hp;cases hA:T.isAgg e with
      |true=>
       rw[hA]at hp;simp only[Option.some.injEq]at hp;subst hp;exact⟨.agg ((zs.toList.drop (i*T.size e)).take (T.size e)).toArray,zc6 hT hj zs _ w _ (by rw[hA]),((hl.drop _).take _).toAgg (a:=((zs.toList.drop (i*T.size e)).take (T.size e)).toArray)⟩
      |false=>
       rw[hA]at hp;simp only at hp;obtain⟨z,hz,hr⟩:=hl.get hp;exact⟨z,zc6 hT hj zs _ w z (by rw[hA];simpa using hz),hr⟩
     rw[Std.Legacy.Range.forIn_eq_forIn_range'];simp only[Std.Legacy.Range.size,Nat.sub_zero,Nat.add_sub_cancel,Nat.div_one];clear hok hi hd' h1;generalize 0=i0 at h
     induction m generalizing r i0 with
     |zero=>
      simp only[wg,Option.some.injEq]at h;subst h;simp
     |succ m ihm=>
      simp only[wg]at h;split at h
      ·rename_i pa pb hpa hpb
       obtain⟨za,hza,hra⟩:=part_ok _ _ _ _ hX hpa;obtain⟨zb,hzb,hrb⟩:=part_ok _ _ _ _ hY hpb;split at h
       ·rename_i r1 he1
        split at h
        ·rename_i r2 he2
         simp only[Option.some.injEq]at h;subst h;have e1:=ih _ _ _ _ he1 G za zb w d (by omega) hra hrb;have e2:=ihm r2 (i0+1) he2;simp only[List.range'_succ,List.forIn_cons,Sem.run_bind,hza,hzb,e1,Result.andThen_ok,Sem.run_ite];cases r1
         ·simp
         ·simpa using e2
        ·cases h
       ·cases h
      ·cases h
    ·cases h
   ·cases h
  ·cases h
end
section
variable {α:Type} {P:Program} {T:Tab}
theorem xir{k:IntKind}{op:BinOp}{a b:Int}{v:V}(h:arith k op a b=some v)(hq:op≠ .quo)(hr:op≠ .rem)(hl:op≠ .shl)(hs:op≠ .shr)(t:TypeId)(w:World)(G:Gh):
  ∃x,(binOp op t (.int k a) (.int k b)).run P w= .ok x w∧Rel G v x:=by
 cases op<;>simp only[arith,Option.some.injEq]at h<;>first
  |(subst h;refine⟨_,?_,.int _ _⟩;simp[binOp,Op.intArith,Op.intBits,Op.intCmp];done)
  |(subst h;refine⟨_,?_,.int _ _⟩;simp[binOp,Op.intArith,Op.intBits,Op.intCmp];rfl)
  |(subst h;refine⟨_,?_,.bool _⟩;simp[binOp,Op.intArith,Op.intBits,Op.intCmp];done)
  |(cases h;done)
  |contradiction
def Drw(w w':World):Prop:=w'=w∨w'=w.drew
theorem xis{k:FloatKind}{a a' b b':Nat}(h:Fe k a a')(h':Fe k b b'):
  k.format.add a b=k.format.add a' b'∧k.format.sub a b=k.format.sub a' b'∧k.format.mul a b=k.format.mul a' b'∧k.format.div a b=k.format.div a' b':=by
 have L:∀{a b:Nat},(k.decode a).isNaN=true→k.format.add a b=none∧k.format.sub a b=none∧k.format.mul a b=none∧k.format.div a b=none:=by
  intro a b h;obtain⟨s,t,h⟩:=zdh h;have h:k.format.read a= .nan s t:=h;unfold Ieee.Format.add Ieee.Format.sub Ieee.Format.mul Ieee.Format.div;rw[h];exact⟨rfl,rfl,rfl,rfl⟩
 have R:∀{a b:Nat},(k.decode b).isNaN=true→k.format.add a b=none∧k.format.sub a b=none∧k.format.mul a b=none∧k.format.div a b=none:=by
  intro a b h;obtain⟨s,t,h⟩:=zdh h;have h:k.format.read b= .nan s t:=h;unfold Ieee.Format.add Ieee.Format.sub Ieee.Format.mul Ieee.Format.div;rw[h];cases k.format.read a<;>exact⟨rfl,rfl,rfl,rfl⟩
 rcases h with rfl|⟨h1,h2⟩
 ·rcases h' with rfl|⟨h3,h4⟩
  ·exact⟨rfl,rfl,rfl,rfl⟩
  ·obtain⟨a1,a2,a3,a4⟩:=R (a:=a) h3
   obtain⟨b1,b2,b3,b4⟩:=R (a:=a) h4;rw[a1,a2,a3,a4,b1,b2,b3,b4];exact⟨rfl,rfl,rfl,rfl⟩
 ·obtain⟨a1,a2,a3,a4⟩:=L (b:=b) h1
  obtain⟨b1,b2,b3,b4⟩:=L (b:=b') h2;rw[a1,a2,a3,a4,b1,b2,b3,b4];exact⟨rfl,rfl,rfl,rfl⟩
theorem zpw(f:Ieee.Format)(w:Nat)(h1:¬w %f.signWeight<f.binade)(h2:¬w %f.signWeight<f.infRung)(h3:¬w %f.signWeight=f.infRung):(f.read w).isNaN=true:=by
 unfold Ieee.Format.read;simp only;rw[if_neg h1,if_neg h2,if_neg h3];rfl
theorem ynf(k:FloatKind)(x y t:Nat):(k.decode ((Question.nanBits k x y).cut t)).isNaN=true:=by
 cases k with
 |f32=>
  have a1:Ieee.single.signWeight=2147483648:=by decide
  have a2:Ieee.single.binade=8388608:=by decide
  have a3:Ieee.single.infRung=2139095040:=by decide
  refine zpw Ieee.single _ ?_ ?_ ?_<;>rw[a1]<;>simp only[Question.cut,a2,a3]<;>(rcases Nat.mod_two_eq_zero_or_one t with h|h<;>rw[h]<;>omega)
 |f64=>
  have a1:Ieee.double.signWeight=9223372036854775808:=by decide
  have a2:Ieee.double.binade=4503599627370496:=by decide
  have a3:Ieee.double.infRung=9218868437227405312:=by decide
  refine zpw Ieee.double _ ?_ ?_ ?_<;>rw[a1]<;>simp only[Question.cut,a2,a3]<;>(rcases Nat.mod_two_eq_zero_or_one t with h|h<;>rw[h]<;>omega)
theorem xe5(k:FloatKind)(x t:Nat):(k.decode ((Question.nanConv k x).cut t)).isNaN=true:=by
 have:=ynf k 0 0 t;cases k<;>exact this
theorem xa3{k:FloatKind}{op:BinOp}{a b a' b':Nat}{v:V}(h:znj k op a b=some v)(ha:Fe k a a')(hb:Fe k b b')(t:TypeId)(w:World)(G:Gh):
  ∃x w',(binOp op t (.float k a') (.float k b')).run P w= .ok x w'∧Drw w w'∧Rel G v x:=by
 obtain⟨f1,f2,f3,f4⟩:=xis ha hb;have f5:=yk3 ha hb
 cases op<;>simp only[znj,f1,f2,f3,f4,f5]at h<;>first
  |(cases h;done)
  |(simp only[Option.some.injEq]at h;subst h;refine⟨_,_,?_,.inl rfl,.bool _⟩;simp[binOp,Op.floatCmp];done)
  |(split at h
    ·rename_i r hr
     simp only[Option.some.injEq]at h;subst h;refine⟨_,_,?_,.inl rfl,.flt _ _⟩;simp[binOp,Op.floatArith,hr];done
    ·rename_i hr
     simp only[Option.some.injEq]at h;subst h;refine⟨_,_,?_,.inr rfl,.nan _ _ (ynf k a' b' (w.tape w.drawn (.nanBits k a' b')))⟩;simp[binOp,Op.floatArith,hr,Question.forced];done)
theorem zff(op:BinOp)(t:TypeId)(ox oy:Operand)(k k':IntKind)(a b:Int)(w:World):(eqGuard op t ox oy (.int k a) (.int k' b)).run P w= .ok () w:=by
 unfold eqGuard;cases op<;>rfl
theorem xbg(op:BinOp)(t:TypeId)(ox oy:Operand)(k k':FloatKind)(a b:Nat)(w:World):(eqGuard op t ox oy (.float k a) (.float k' b)).run P w= .ok () w:=by
 unfold eqGuard;cases op<;>rfl
theorem zcd(op:BinOp)(t:TypeId)(ox oy:Operand)(a b:ByteArray)(w:World):(eqGuard op t ox oy (.string a) (.string b)).run P w= .ok () w:=by
 unfold eqGuard;cases op<;>rfl
theorem ymw(hT:TabOk P T){n:Nat}{t:TypeId}{x y:V}{r:Bool}(h:eqT T n t x y=some r){G:Gh}{a b:Value}(hx:Rel G x a)(hy:Rel G y b)
  (op:BinOp)(ox oy:Operand)(w:World):(eqGuard op t ox oy a b).run P w= .ok () w:=by
 cases n with
 |zero=>simp[eqT]at h
 |succ n=>
  simp only[eqT]at h;split at h
  case h_14 fs as bs hd=>
   cases hx;cases hy;split at h
   ·rename_i i hi
    split at h
    ·rename_i hok
     exact run_eqGuard_agg w op t ox oy _ _ ((hT.ti t i hi).eq hok).2.1
    ·cases h
   ·cases h
  case h_15 m e as bs hd=>
   cases hx;cases hy;split at h
   ·rename_i i hi
    split at h
    ·rename_i hok
     exact run_eqGuard_agg w op t ox oy _ _ ((hT.ti t i hi).eq hok).2.1
    ·cases h
   ·cases h
  all_goals (first|(cases h;done)|(cases hx<;>cases hy<;>(unfold eqGuard;cases op<;>rfl)))
def zg0:V→Bool
 | .int _ _| .flt _ _| .str _| .cpl _ _ _=>false
 |_=>true
theorem yop{n:Nat}{t:TypeId}{x y:V}{r:Bool}(h:eqT T n t x y=some r)(hn:zg0 x=true){G:Gh}{a b:Value}(hx:Rel G x a)(hy:Rel G y b):
  binOp .eql t a b=(do pure (.bool (←Op.equal t a b)))∧binOp .neq t a b=(do pure (.bool (!(←Op.equal t a b)))):=by
 cases n with
 |zero=>simp[eqT]at h
 |succ n=>
  simp only[eqT]at h;split at h
  all_goals (first|(cases h;done)|(simp[zg0]at hn;done)|(clear h;cases hx<;>cases hy<;>exact⟨rfl,rfl⟩))
theorem yoo(a b:ByteArray):(a.toList==b.toList)=(a.data.toList==b.data.toList):=by rw[ByteArray.toList_eq,ByteArray.toList_eq]
theorem xin(hT:TabOk P T){op:BinOp}{t:TypeId}{x y:V}{k:V→Option α}{r:α}(h:xg T op t x y k=some r):
  ∃v,k v=some r∧∀(G:Gh) (a b:Value) (ox oy:Operand) (w:World),Rel G x a→Rel G y b→
   ∃u w',(do eqGuard op t ox oy a b;binOp op t a b:Sem Value).run P w= .ok u w'∧Drw w w'∧Rel G v u:=by
 unfold xg at h;split at h
 ·obtain⟨hb,h⟩:=xf h
  refine⟨_,h,fun G a b ox oy w hx hy=> ?_⟩;cases hx;cases hy;refine⟨_,_,?_,.inl rfl,.int _ _⟩;simp only[decide_eq_true_eq]at hb;simp only[Sem.run_bind,zff,Result.andThen_ok];simp[binOp,Op.shift,Int.not_lt.2 hb]
 ·obtain⟨hb,h⟩:=xf h
  refine⟨_,h,fun G a b ox oy w hx hy=> ?_⟩;cases hx;cases hy;refine⟨_,_,?_,.inl rfl,.int _ _⟩;simp only[decide_eq_true_eq]at hb;simp only[Sem.run_bind,zff,Result.andThen_ok];simp[binOp,Op.shift,Int.not_lt.2 hb]
 ·split at h
  ·rename_i hk
   simp only[decide_eq_true_eq]at hk;subst hk;obtain⟨hb,h⟩:=xf h;refine⟨_,h,fun G a b ox oy w hx hy=> ?_⟩;cases hx;cases hy;refine⟨_,_,?_,.inl rfl,.int _ _⟩;simp at hb;simp only[Sem.run_bind,zff,Result.andThen_ok];simp[binOp,Op.intDiv,hb]
  ·cases h
 ·split at h
  ·rename_i hk
   simp only[decide_eq_true_eq]at hk;subst hk;obtain⟨hb,h⟩:=xf h;refine⟨_,h,fun G a b ox oy w hx hy=> ?_⟩;cases hx;cases hy;refine⟨_,_,?_,.inl rfl,.int _ _⟩;simp at hb;simp only[Sem.run_bind,zff,Result.andThen_ok];simp[binOp,Op.intDiv,hb]
  ·cases h
 ·rename_i n1 n2 n3 n4
  split at h
  ·rename_i hk
   simp only[decide_eq_true_eq]at hk;subst hk;obtain⟨v,hv,h⟩:=zas h;refine⟨v,h,fun G a b ox oy w hx hy=> ?_⟩;cases hx;cases hy;obtain⟨u,hu,hr⟩:=xir (P:=P) hv (by rintro rfl;simp_all) (by rintro rfl;simp_all) (by rintro rfl;simp_all) (by rintro rfl;simp_all) t w G;exact⟨u,_,by simp only[Sem.run_bind,zff,Result.andThen_ok,hu],.inl rfl,hr⟩
  ·cases h
 ·split at h
  ·rename_i hk
   simp only[decide_eq_true_eq]at hk;subst hk;obtain⟨v,hv,h⟩:=zas h;refine⟨v,h,fun G a b ox oy w hx hy=> ?_⟩;obtain⟨a',rfl,fa⟩:=hx.fltInv;obtain⟨b',rfl,fb⟩:=hy.fltInv;obtain⟨u,w',hu,hd,hr⟩:=xa3 (P:=P) hv fa fb t w G;exact⟨u,w',by simp only[Sem.run_bind,xbg,Result.andThen_ok,hu],hd,hr⟩
  ·cases h
 ·obtain⟨hb,h⟩:=xf h
  refine⟨_,h,fun G a b ox oy w hx hy=> ?_⟩;cases hx with|str s1 l1 e1=>
  cases hy with|str s2 l2 e2=>
  subst e1 e2;refine⟨.string (s1++s2),_,?_,.inl rfl,.str _ _ (by simp[ByteArray.data_append])⟩;have hb':s1.size+s2.size<1099511627776:=by have:=of_decide_eq_true hb;simpa[zhg]using this
  simp only[Sem.run_bind,zcd,Result.andThen_ok]
  have:¬((s1.size+s2.size:Nat):Int)>IntKind.i64.max:=by
   simp only[IntKind.max,IntKind.signed,IntKind.bits];simp;omega
  simp only[binOp,Op.stringOp];rw[if_neg this];rfl
 ·refine⟨_,h,fun G a b ox oy w hx hy=> ?_⟩
  cases hx with|str s1 l1 e1=>
  cases hy with|str s2 l2 e2=>
  subst e1 e2;exact⟨_,_,by simp only[Sem.run_bind,zcd,Result.andThen_ok];simp[binOp,Op.stringOp,yoo],.inl rfl,.bool _⟩
 ·refine⟨_,h,fun G a b ox oy w hx hy=> ?_⟩
  cases hx with|str s1 l1 e1=>
  cases hy with|str s2 l2 e2=>
  subst e1 e2;exact⟨_,_,by simp only[Sem.run_bind,zcd,Result.andThen_ok];simp[binOp,Op.stringOp,yoo],.inl rfl,.bool _⟩
 ·refine⟨_,h,fun G a b ox oy w hx hy=> ?_⟩
  cases hx with|str s1 l1 e1=>
  cases hy with|str s2 l2 e2=>
  subst e1 e2;exact⟨_,_,by simp only[Sem.run_bind,zcd,Result.andThen_ok];simp[binOp,Op.stringOp,ByteArray.toList_eq],.inl rfl,.bool _⟩
 ·refine⟨_,h,fun G a b ox oy w hx hy=> ?_⟩
  cases hx with|str s1 l1 e1=>
  cases hy with|str s2 l2 e2=>
  subst e1 e2;exact⟨_,_,by simp only[Sem.run_bind,zcd,Result.andThen_ok];simp[binOp,Op.stringOp,ByteArray.toList_eq],.inl rfl,.bool _⟩
 ·refine⟨_,h,fun G a b ox oy w hx hy=> ?_⟩
  cases hx with|str s1 l1 e1=>
  cases hy with|str s2 l2 e2=>
  subst e1 e2;exact⟨_,_,by simp only[Sem.run_bind,zcd,Result.andThen_ok];simp[binOp,Op.stringOp,ByteArray.toList_eq],.inl rfl,.bool _⟩
 ·refine⟨_,h,fun G a b ox oy w hx hy=> ?_⟩
  cases hx with|str s1 l1 e1=>
  cases hy with|str s2 l2 e2=>
  subst e1 e2;exact⟨_,_,by simp only[Sem.run_bind,zcd,Result.andThen_ok];simp[binOp,Op.stringOp,ByteArray.toList_eq],.inl rfl,.bool _⟩
 ·cases h
 ·obtain⟨e,he,h⟩:=zas h
  refine⟨_,h,fun G a b ox oy w hx hy=>⟨.bool e,_,?_,.inl rfl,.bool _⟩⟩;have h1:=ymw hT he hx hy .eql ox oy w;have h2:=zh5 hT _ _ _ _ _ he G a b w 10000 (by decide) hx hy;have hp:zg0 x=true:=by cases x<;>first|rfl|(exfalso;cases y<;>simp_all [eqT,kp])
  rw[Sem.run_bind,h1,Result.andThen_ok,(yop he hp hx hy).1];simp[Op.equal,Op.maxDepth,h2]
 ·obtain⟨e,he,h⟩:=zas h
  refine⟨_,h,fun G a b ox oy w hx hy=>⟨.bool (!e),_,?_,.inl rfl,.bool _⟩⟩;have h1:=ymw hT he hx hy .neq ox oy w;have h2:=zh5 hT _ _ _ _ _ he G a b w 10000 (by decide) hx hy;have hp:zg0 x=true:=by cases x<;>first|rfl|(exfalso;cases y<;>simp_all [eqT,kp])
  rw[Sem.run_bind,h1,Result.andThen_ok,(yop he hp hx hy).2];simp[Op.equal,Op.maxDepth,h2]
 ·cases h
theorem yp9(b e:Nat):(b^^^2^e) %2^e=b %2^e:=by
 apply Nat.eq_of_testBit_eq;intro i;simp only[Nat.testBit_mod_two_pow,Nat.testBit_xor,Nat.testBit_two_pow];by_cases h:i<e
 ·have:¬e=i:=by omega
  simp[h,this]
 ·simp[h]
theorem yu1{k:FloatKind}{b:Nat}(h:(k.decode b).isNaN=true):(k.decode (Op.negFloat k b)).isNaN=true:=by
 have key:∀(f:Ieee.Format) (n:Bool) (x y:Nat),y %f.signWeight=x %f.signWeight→(f.read x).isNaN=true→(f.read y).isNaN=true:=by
  intro f n x y e h;unfold Ieee.Format.read at h⊢;simp only[e];simp only at h;split
  ·rename_i h1;rw[if_pos h1]at h;cases h
  ·rename_i h1
   rw[if_neg h1]at h;split
   ·rename_i h2;rw[if_pos h2]at h;cases h
   ·rename_i h2
    rw[if_neg h2]at h;split
    ·rename_i h3;rw[if_pos h3]at h;cases h
    ·rfl
 exact key k.format true b _ (by unfold Op.negFloat Ieee.Format.signWeight;exact yp9 _ _) h
theorem yqj{op:UnOp}{x:V}{k:V→Option α}{r:α}(h:unK op x k=some r):
  ∃v,k v=some r∧∀(G:Gh) (a:Value) (w:World),Rel G x a→∃u,(Op.unary op a).run P w= .ok u w∧Rel G v u:=by
 unfold unK at h;split at h
 ·refine⟨_,h,fun G a w hx=> ?_⟩
  cases hx;exact⟨_,by simp[Op.unary,Op.intArith],.int _ _⟩
 ·refine⟨_,h,fun G a w hx=> ?_⟩
  cases hx;exact⟨_,by simp[Op.unary],.bool _⟩
 ·rename_i kd b
  cases hde:kd.decode b with
  |nan s t=>
   rw[hde]at h;refine⟨_,h,fun G a w hx=> ?_⟩;obtain⟨b',rfl,fb⟩:=hx.fltInv;refine⟨_,by simp[Op.unary],.nan kd (Op.negFloat kd b') (yu1 ?_)⟩;rcases fb with rfl|⟨_,h2⟩
   ·rw[hde];rfl
   ·exact h2
  |infinity s=>
   rw[hde]at h;refine⟨_,h,fun G a w hx=> ?_⟩;obtain⟨b',rfl,fb⟩:=hx.fltInv;rcases fb with rfl|⟨h1,_⟩
   ·exact⟨_,by simp[Op.unary],.flt _ _⟩
   ·rw[hde]at h1;cases h1
  |number s m e=>
   rw[hde]at h;refine⟨_,h,fun G a w hx=> ?_⟩;obtain⟨b',rfl,fb⟩:=hx.fltInv;rcases fb with rfl|⟨h1,_⟩
   ·exact⟨_,by simp[Op.unary],.flt _ _⟩
   ·rw[hde]at h1;cases h1
 ·cases h
theorem xeu{P:Program}{T:Tab}(hT:TabOk P T){t:TypeId}{i:TI}(h:T.ti t=some i):∃d,P.underlying t=some d:=by
 obtain⟨inf,d,h1,h2,_⟩:=hT.get h;exact⟨d,h2⟩
theorem xfk(hT:TabOk P T){s d:TypeId}{x:V}{k:V→Option α}{r:α}(h:zaz T s d x k=some r)(hs:∃i,T.ti s=some i):
  ∃v,k v=some r∧∀(G:Gh) (a:Value) (w:World),Rel G x a→∃u w',(convert s d a).run P w= .ok u w'∧Drw w w'∧Rel G v u:=by
 obtain⟨i,hi⟩:=hs;obtain⟨ds,hds⟩:=xeu hT hi;unfold zaz at h;split at h
 ·rename_i kd kx n _ hd
  refine⟨_,h,fun G a w hx=> ?_⟩;cases hx;exact⟨_,_,by simp[convert,run_underlying hds,run_underlying (hT.intT hd),Conv.intToInt],.inl rfl,.int _ _⟩
 ·rename_i kd kx n _ hd
  refine⟨_,h,fun G a w hx=> ?_⟩;cases hx;obtain⟨u,h1,h2⟩:=hT.under hd (by simp);cases zid h2;exact⟨_,_,by simp[convert,run_underlying hds,run_underlying h1,Conv.intToFloat],.inl rfl,.flt _ _⟩
 ·rename_i kd kx n _ hd
  obtain⟨m,hm,h⟩:=zas h;obtain⟨hb,h⟩:=xf h;have hb:=of_decide_eq_true hb;refine⟨_,h,fun G a w hx=> ?_⟩;obtain⟨b',rfl,fb⟩:=hx.fltInv;rcases fb with rfl|⟨h1,_⟩
  ·exact⟨_,_,by simp[convert,run_underlying hds,run_underlying (hT.intT hd),Conv.floatToInt,hm,hb],.inl rfl,.int _ _⟩
  ·obtain⟨s,t,h1⟩:=zdh h1
   rw[h1]at hm;cases hm
 ·rename_i kd kx n _ hd
  obtain⟨u,h1,h2⟩:=hT.under hd (by simp);cases zid h2;split at h
  ·rename_i hk
   have hk:=of_decide_eq_true hk;subst hk;refine⟨_,h,fun G a w hx=> ?_⟩;obtain⟨b',rfl,fb⟩:=hx.fltInv;exact⟨_,_,by simp[convert,run_underlying hds,run_underlying h1,Conv.floatToFloat],.inl rfl,hx⟩
  ·rename_i hk
   have hk:=of_decide_eq_false hk;split at h
   ·rename_i hde
    refine⟨_,h,fun G a w hx=> ?_⟩;obtain⟨b',rfl,fb⟩:=hx.fltInv
    obtain⟨s',t',hde'⟩:∃s' t',FloatKind.decode _ b'= .nan s' t':=by
     rcases fb with rfl|⟨_,h2⟩
     ·exact⟨_,_,hde⟩
     ·exact zdh h2
    exact⟨_,_,by simp[convert,run_underlying hds,run_underlying h1,Conv.floatToFloat,hk,hde',Question.forced];rfl,.inr rfl,.nan _ _ (xe5 _ b' (w.tape w.drawn (.nanConv _ b')))⟩
   ·rename_i hde
    refine⟨_,h,fun G a w hx=> ?_⟩;obtain⟨b',rfl,fb⟩:=hx.fltInv;rcases fb with rfl|⟨h2,_⟩
    ·exact⟨_,_,by simp[convert,run_underlying hds,run_underlying h1,Conv.floatToFloat,hk,hde],.inl rfl,.flt _ _⟩
    ·rw[hde]at h2;cases h2
   ·rename_i hde
    obtain⟨hb,h⟩:=xf h;refine⟨_,h,fun G a w hx=> ?_⟩;obtain⟨b',rfl,fb⟩:=hx.fltInv;rcases fb with rfl|⟨h2,_⟩
    ·simp at hb
     exact⟨_,_,by simp[convert,run_underlying hds,run_underlying h1,Conv.floatToFloat,hk,hde,hb],.inl rfl,.flt _ _⟩
    ·rw[hde]at h2;cases h2
 ·rename_i st _ hd
  refine⟨_,h,fun G a w hx=> ?_⟩;cases hx with|str s1 l1 e1=>
  exact⟨_,_,by simp[convert,run_underlying hds,run_underlying (hT.string hd)],.inl rfl,.str _ _ e1⟩
 ·cases h
end
def FP.or(a b:FP):FP:=⟨a.rd|||b.rd,a.wr|||b.wr,a.fr|||b.fr,a.sk||b.sk⟩
theorem FP.or_assoc(a b c:FP):(a.or b).or c=a.or (b.or c):=by simp[FP.or,Nat.or_assoc,Bool.or_assoc]
theorem FP.or_none(a:FP):a.or .none=a:=by cases a;simp[FP.or,FP.none]
def xo(g:FP)(o:Option (V×Mem×FP)):Option (V×Mem×FP):=match o with|some (v,m,f)=>some (v,m,g.or f)|none=>none
def uz(i:Nat):FP:=⟨bit i,0,0,false⟩
def yg(i:Nat):FP:=⟨0,bit i,0,false⟩
def uk(i:Nat):FP:=⟨0,0,bit i,false⟩
def skF:FP:=⟨0,0,0,true⟩
def Prog.run(slot:Option Nat):Prog→Mem→Option (V×Mem×FP)
 | .ret v,m=>some (v,m,.none)
 | .fail,_=>none
 | .get id p,m=>match m.H[id]? with|some r=>xo (uz id) ((p r).run slot m)|none=>none
 | .set id r p,m=>match Nat.blt id m.H.length with|true=>xo (yg id) (p.run slot ⟨m.H.set id r,m.Fz,m.S⟩)|false=>none
 | .isFz id p,m=>xo (yg id) ((p (m.Fz.testBit id)).run slot m)
 | .frz id p,m=>xo (uk id) (p.run slot ⟨m.H,m.Fz|||bit id,m.S⟩)
 | .base p,m=>match slot with|none=>(p m.H.length).run slot m|some i=>(p i).run slot m
 | .new r p,m=>match slot with
  |none=>p.run slot ⟨m.H++ [r],m.Fz,m.S⟩
  |some i=>match m.H[i]? with
   |some .free=>xo (yg i) (p.run slot ⟨m.H.set i r,m.Fz,m.S⟩)
   |_=>none
 | .stk p,m=>xo skF ((p m.S).run slot m)
 | .setStk s p,m=>xo skF (p.run slot ⟨m.H,m.Fz,s⟩)
theorem qt{g:FP}{o:Option (V×Mem×FP)}{v:V}{m:Mem}{f:FP}(h:xo g o=some (v,m,f)):∃f1,o=some (v,m,f1)∧f=g.or f1:=by
 unfold xo at h;split at h
 ·rename_i v1 m1 f1
  simp only[Option.some.injEq,Prod.mk.injEq]at h;obtain⟨rfl,rfl,rfl⟩:=h;exact⟨f1,rfl,rfl⟩
 ·cases h
theorem zdq{α:Type}{slot:Option Nat}:∀(p:Prog) (H:zj) (Fz:Nat) (S:xb) (fp:FP) (k:V→zj→Nat→xb→FP→Option α) (r:α),p.go slot H Fz S fp k=some r→
  ∃v m f,p.run slot ⟨H,Fz,S⟩=some (v,m,f)∧k v m.H m.Fz m.S (fp.or f)=some r:=by
 intro p
 induction p with
 |ret v=>intro H Fz S fp k r h;exact⟨v,_,_,rfl,by rw[FP.or_none];exact h⟩
 |fail=>intro H Fz S fp k r h;simp[Prog.go]at h
 |get id p ih=>
  intro H Fz S ⟨rd,wr,fr,sk⟩ k r h;simp only[Prog.go]at h;split at h
  ·rename_i row hrow
   obtain⟨v,m,f,h1,h2⟩:=ih _ _ _ _ _ _ _ h;refine⟨v,m,(uz id).or f,?_,?_⟩
   ·simp[Prog.run,hrow,h1,xo]
   ·rw[←FP.or_assoc];simpa[FP.or,uz]using h2
  ·cases h
 |set id row p ih=>
  intro H Fz S ⟨rd,wr,fr,sk⟩ k r h;simp only[Prog.go]at h;split at h
  ·rename_i hb
   obtain⟨v,m,f,h1,h2⟩:=ih _ _ _ _ _ _ h;refine⟨v,m,(yg id).or f,?_,?_⟩
   ·simp[Prog.run,hb,h1,xo]
   ·rw[←FP.or_assoc];simpa[FP.or,yg]using h2
  ·cases h
 |isFz id p ih=>
  intro H Fz S ⟨rd,wr,fr,sk⟩ k r h;simp only[Prog.go]at h;obtain⟨v,m,f,h1,h2⟩:=ih _ _ _ _ _ _ _ h;refine⟨v,m,(yg id).or f,?_,?_⟩
  ·simp[Prog.run,h1,xo]
  ·rw[←FP.or_assoc];simpa[FP.or,yg]using h2
 |frz id p ih=>
  intro H Fz S ⟨rd,wr,fr,sk⟩ k r h;simp only[Prog.go]at h;obtain⟨v,m,f,h1,h2⟩:=ih _ _ _ _ _ _ h;refine⟨v,m,(uk id).or f,?_,?_⟩
  ·simp[Prog.run,h1,xo]
  ·rw[←FP.or_assoc];simpa[FP.or,uk]using h2
 |base p ih=>
  intro H Fz S ⟨rd,wr,fr,sk⟩ k r h;cases slot with
  |none=>simp only[Prog.go]at h;obtain⟨v,m,f,h1,h2⟩:=ih _ _ _ _ _ _ _ h;exact⟨v,m,f,by simpa[Prog.run]using h1,h2⟩
  |some i=>simp only[Prog.go]at h;obtain⟨v,m,f,h1,h2⟩:=ih _ _ _ _ _ _ _ h;exact⟨v,m,f,by simpa[Prog.run]using h1,h2⟩
 |new row p ih=>
  intro H Fz S ⟨rd,wr,fr,sk⟩ k r h;cases slot with
  |none=>
   simp only[Prog.go]at h;obtain⟨v,m,f,h1,h2⟩:=ih _ _ _ _ _ _ h;exact⟨v,m,f,by simpa[Prog.run]using h1,h2⟩
  |some i=>
   simp only[Prog.go]at h;split at h
   ·rename_i hf
    obtain⟨v,m,f,h1,h2⟩:=ih _ _ _ _ _ _ h;refine⟨v,m,(yg i).or f,?_,?_⟩
    ·simp[Prog.run,hf,h1,xo]
    ·rw[←FP.or_assoc];simpa[FP.or,yg]using h2
   ·cases h
 |stk p ih=>
  intro H Fz S ⟨rd,wr,fr,sk⟩ k r h;simp only[Prog.go]at h;obtain⟨v,m,f,h1,h2⟩:=ih _ _ _ _ _ _ _ h;refine⟨v,m,skF.or f,?_,?_⟩
  ·simp[Prog.run,h1,xo]
  ·rw[←FP.or_assoc];simpa[FP.or,skF]using h2
 |setStk s p ih=>
  intro H Fz S ⟨rd,wr,fr,sk⟩ k r h;simp only[Prog.go]at h;obtain⟨v,m,f,h1,h2⟩:=ih _ _ _ _ _ _ h;refine⟨v,m,skF.or f,?_,?_⟩
  ·simp[Prog.run,h1,xo]
  ·rw[←FP.or_assoc];simpa[FP.or,skF]using h2
theorem vh(i j:Nat):(bit i).testBit j=decide (i=j):=by
 unfold bit;rw[Nat.one_shiftLeft,Nat.testBit_two_pow]
structure Agree (f:FP) (m n:Mem):Prop where
 len:m.H.length=n.H.length
 row:∀i,(f.rd|||f.wr).testBit i=true→m.H[i]? =n.H[i]?
 fz:∀i,f.wr.testBit i=true→m.Fz.testBit i=n.Fz.testBit i
 sk:f.sk=true→m.S=n.S
structure Aft (f:FP) (m' n n':Mem):Prop where
 len:n'.H.length=n.H.length
 inn:∀i,f.wr.testBit i=true→n'.H[i]? =m'.H[i]?
 out:∀i,f.wr.testBit i=false→n'.H[i]? =n.H[i]?
 fz:n'.Fz=n.Fz|||f.fr
 skT:f.sk=true→n'.S=m'.S
 skF:f.sk=false→n'.S=n.S
theorem Agree.of_or{f g:FP}{m n:Mem}(h:Agree (f.or g) m n):Agree g m n:=
 ⟨h.len,fun i hi=>h.row i (by simp[FP.or,Nat.testBit_or]at*;rcases hi with h|h<;>simp[h]),fun i hi=>h.fz i (by simp[FP.or,Nat.testBit_or,hi]),fun hs=>h.sk (by simp[FP.or,hs])⟩
theorem zby{s:Nat}:∀(p:Prog) (m:Mem) (v:V) (m':Mem) (f:FP),p.run (some s) m=some (v,m',f)→Aft f m' m m':=by
 intro p
 induction p with
 |ret v=>intro m v' m' f h;simp only[Prog.run,Option.some.injEq,Prod.mk.injEq]at h;obtain⟨rfl,rfl,rfl⟩:=h;exact⟨rfl,fun _ _=>rfl,fun _ _=>rfl,by simp[FP.none],fun _=>rfl,fun _=>rfl⟩
 |fail=>intro m v' m' f h;simp[Prog.run]at h
 |get id p ih=>
  intro m v m' f h;simp only[Prog.run]at h;split at h
  ·obtain⟨f1,h1,rfl⟩:=qt h
   have a:=ih _ _ _ _ _ h1;exact⟨a.len,fun i hi=>rfl,fun i hi=>a.out i (by simpa[FP.or,uz]using hi),by simpa[FP.or,uz]using a.fz,fun _=>rfl,fun hs=>a.skF (by simpa[FP.or,uz]using hs)⟩
  ·cases h
 |set id r p ih=>
  intro m v m' f h;simp only[Prog.run]at h;split at h
  ·rename_i hb
   obtain⟨f1,h1,rfl⟩:=qt h;have a:=ih _ _ _ _ h1;refine⟨by simpa using a.len,fun i hi=>rfl,fun i hi=> ?_,by simpa[FP.or,yg]using a.fz,fun _=>rfl,fun hs=>a.skF (by simpa[FP.or,yg]using hs)⟩;simp only[FP.or,yg,Nat.testBit_or,vh,Bool.or_eq_false_iff,decide_eq_false_iff_not]at hi;rw[a.out i hi.2];simp[List.getElem?_set_ne hi.1]
  ·cases h
 |isFz id p ih=>
  intro m v m' f h;simp only[Prog.run]at h;obtain⟨f1,h1,rfl⟩:=qt h;have a:=ih _ _ _ _ _ h1;refine⟨a.len,fun i hi=>rfl,fun i hi=> ?_,by simpa[FP.or,yg]using a.fz,fun _=>rfl,fun hs=>a.skF (by simpa[FP.or,yg]using hs)⟩;simp only[FP.or,yg,Nat.testBit_or,Bool.or_eq_false_iff]at hi;exact a.out i hi.2
 |frz id p ih=>
  intro m v m' f h;simp only[Prog.run]at h;obtain⟨f1,h1,rfl⟩:=qt h;have a:=ih _ _ _ _ h1;refine⟨a.len,fun i hi=>rfl,fun i hi=>a.out i (by simpa[FP.or,uk]using hi),?_,fun _=>rfl,fun hs=>a.skF (by simpa[FP.or,uk]using hs)⟩;rw[a.fz];simp[FP.or,uk,Nat.or_assoc]
 |base p ih=>intro m v m' f h;simp only[Prog.run]at h;exact ih _ _ _ _ _ h
 |new r p ih=>
  intro m v m' f h;simp only[Prog.run]at h;split at h
  ·obtain⟨f1,h1,rfl⟩:=qt h
   have a:=ih _ _ _ _ h1;refine⟨by simpa using a.len,fun i hi=>rfl,fun i hi=> ?_,by simpa[FP.or,yg]using a.fz,fun _=>rfl,fun hs=>a.skF (by simpa[FP.or,yg]using hs)⟩;simp only[FP.or,yg,Nat.testBit_or,vh,Bool.or_eq_false_iff,decide_eq_false_iff_not]at hi;rw[a.out i hi.2];simp[List.getElem?_set_ne hi.1]
  ·cases h
 |stk p ih=>
  intro m v m' f h;simp only[Prog.run]at h;obtain⟨f1,h1,rfl⟩:=qt h;have a:=ih _ _ _ _ _ h1;exact⟨a.len,fun i hi=>rfl,fun i hi=>a.out i (by simpa[FP.or,skF]using hi),by simpa[FP.or,skF]using a.fz,fun _=>rfl,fun hs=>by simp[FP.or,Go.Den.skF]at hs⟩
 |setStk s' p ih=>
  intro m v m' f h;simp only[Prog.run]at h;obtain⟨f1,h1,rfl⟩:=qt h;have a:=ih _ _ _ _ h1;exact⟨a.len,fun i hi=>rfl,fun i hi=>a.out i (by simpa[FP.or,skF]using hi),by simpa[FP.or,skF]using a.fz,fun _=>rfl,fun hs=>by simp[FP.or,Go.Den.skF]at hs⟩
theorem zpn{s:Nat}:∀(p:Prog) (m n:Mem) (v:V) (m':Mem) (f:FP),p.run (some s) m=some (v,m',f)→Agree f m n→∃n',p.run (some s) n=some (v,n',f)∧Aft f m' n n':=by
 intro p
 induction p with
 |ret v=>
  intro m n v' m' f h hA;simp only[Prog.run,Option.some.injEq,Prod.mk.injEq]at h;obtain⟨rfl,rfl,rfl⟩:=h;exact⟨n,rfl,rfl,fun i hi=>by simp[FP.none]at hi,fun _ _=>rfl,by simp[FP.none],fun hs=>by simp[FP.none]at hs,fun _=>rfl⟩
 |fail=>intro m n v' m' f h;simp[Prog.run]at h
 |get id p ih=>
  intro m n v m' f h hA;simp only[Prog.run]at h;split at h
  ·rename_i r hr
   obtain⟨f1,h1,rfl⟩:=qt h;obtain⟨n',e,a⟩:=ih _ _ _ _ _ _ h1 hA.of_or;have hn:n.H[id]? =some r:=by rw[←hA.row id (by simp[FP.or,uz,Nat.testBit_or,vh]),hr]
   refine⟨n',by simp[Prog.run,hn,e,xo],a.len,fun i hi=>a.inn i (by simpa[FP.or,uz]using hi),fun i hi=>a.out i (by simpa[FP.or,uz]using hi),by simpa[FP.or,uz]using a.fz,
    fun hs=>a.skT (by simpa[FP.or,uz]using hs),fun hs=>a.skF (by simpa[FP.or,uz]using hs)⟩
  ·cases h
 |set id r p ih=>
  intro m n v m' f h hA;simp only[Prog.run]at h;split at h
  ·rename_i hb
   obtain⟨f1,h1,rfl⟩:=qt h;have hbn:Nat.blt id n.H.length=true:=by rw[←hA.len];exact hb
   have hid:id<m.H.length:=Nat.le_of_ble_eq_true hb
   have hA1:Agree f1 ⟨m.H.set id r,m.Fz,m.S⟩ ⟨n.H.set id r,n.Fz,n.S⟩:=by
    refine⟨by simpa using hA.len,fun i hi=> ?_,fun i hi=>hA.of_or.fz i hi,fun hs=>hA.of_or.sk hs⟩;by_cases h:id=i
    ·subst h;simp[List.getElem?_set,hid,hA.len▸hid]
    ·simp only[List.getElem?_set_ne h];exact hA.of_or.row i hi
   obtain⟨n',e,a⟩:=ih _ _ _ _ _ h1 hA1;have l:=zby _ _ _ _ _ h1
   refine⟨n',by simp[Prog.run,hbn,e,xo],by simpa using a.len,fun i hi=> ?_,fun i hi=> ?_,by simpa[FP.or,yg]using a.fz,
    fun hs=>a.skT (by simpa[FP.or,yg]using hs),fun hs=>a.skF (by simpa[FP.or,yg]using hs)⟩
   ·by_cases hw:f1.wr.testBit i=true
    ·exact a.inn i hw
    ·simp only[Bool.not_eq_true]at hw
     have:id=i:=by simpa[FP.or,yg,Nat.testBit_or,vh,hw]using hi
     subst this;rw[a.out _ hw,l.out _ hw];simp[List.getElem?_set,hid,hA.len▸hid]
   ·simp only[FP.or,yg,Nat.testBit_or,vh,Bool.or_eq_false_iff,decide_eq_false_iff_not]at hi
    rw[a.out i hi.2];simp[List.getElem?_set_ne hi.1]
  ·cases h
 |isFz id p ih=>
  intro m n v m' f h hA;simp only[Prog.run]at h;obtain⟨f1,h1,rfl⟩:=qt h;have hz:n.Fz.testBit id=m.Fz.testBit id:=(hA.fz id (by simp[FP.or,yg,Nat.testBit_or,vh])).symm;obtain⟨n',e,a⟩:=ih _ _ _ _ _ _ h1 hA.of_or;have l:=zby _ _ _ _ _ h1
  refine⟨n',by simp[Prog.run,hz,e,xo],a.len,fun i hi=> ?_,fun i hi=> ?_,by simpa[FP.or,yg]using a.fz,
   fun hs=>a.skT (by simpa[FP.or,yg]using hs),fun hs=>a.skF (by simpa[FP.or,yg]using hs)⟩
  ·by_cases hw:f1.wr.testBit i=true
   ·exact a.inn i hw
   ·simp only[Bool.not_eq_true]at hw
    rw[a.out _ hw,l.out _ hw];exact(hA.row i (by simp[FP.or,yg,Nat.testBit_or]at*;simp[hi])).symm
  ·simp only[FP.or,yg,Nat.testBit_or,Bool.or_eq_false_iff]at hi
   exact a.out i hi.2
 |frz id p ih=>
  intro m n v m' f h hA;simp only[Prog.run]at h;obtain⟨f1,h1,rfl⟩:=qt h
  have hA1:Agree f1 ⟨m.H,m.Fz|||bit id,m.S⟩ ⟨n.H,n.Fz|||bit id,n.S⟩:=
   ⟨hA.len,fun i hi=>hA.of_or.row i hi,fun i hi=>by simp only[Nat.testBit_or];rw[hA.of_or.fz i hi],fun hs=>hA.of_or.sk hs⟩
  obtain⟨n',e,a⟩:=ih _ _ _ _ _ h1 hA1
  refine⟨n',by simp[Prog.run,e,xo],a.len,fun i hi=>a.inn i (by simpa[FP.or,uk]using hi),fun i hi=>a.out i (by simpa[FP.or,uk]using hi),?_,
   fun hs=>a.skT (by simpa[FP.or,uk]using hs),fun hs=>a.skF (by simpa[FP.or,uk]using hs)⟩
  rw[a.fz];simp[FP.or,uk,Nat.or_assoc]
 |base p ih=>intro m n v m' f h hA;simp only[Prog.run]at h⊢;exact ih _ _ _ _ _ _ h hA
 |new r p ih=>
  intro m n v m' f h hA;simp only[Prog.run]at h;split at h
  ·rename_i hf
   obtain⟨f1,h1,rfl⟩:=qt h;have hn:n.H[s]? =some .free:=by rw[←hA.row s (by simp[FP.or,yg,Nat.testBit_or,vh]),hf]
   have hid:s<m.H.length:=(List.getElem?_eq_some_iff.1 hf).1
   have hA1:Agree f1 ⟨m.H.set s r,m.Fz,m.S⟩ ⟨n.H.set s r,n.Fz,n.S⟩:=by
    refine⟨by simpa using hA.len,fun i hi=> ?_,fun i hi=>hA.of_or.fz i hi,fun hs=>hA.of_or.sk hs⟩;by_cases h:s=i
    ·subst h;simp[List.getElem?_set,hid,hA.len▸hid]
    ·simp only[List.getElem?_set_ne h];exact hA.of_or.row i hi
   obtain⟨n',e,a⟩:=ih _ _ _ _ _ h1 hA1;have l:=zby _ _ _ _ _ h1
   refine⟨n',by simp[Prog.run,hn,e,xo],by simpa using a.len,fun i hi=> ?_,fun i hi=> ?_,by simpa[FP.or,yg]using a.fz,
    fun hs=>a.skT (by simpa[FP.or,yg]using hs),fun hs=>a.skF (by simpa[FP.or,yg]using hs)⟩
   ·by_cases hw:f1.wr.testBit i=true
    ·exact a.inn i hw
    ·simp only[Bool.not_eq_true]at hw
     have:s=i:=by simpa[FP.or,yg,Nat.testBit_or,vh,hw]using hi
     subst this;rw[a.out _ hw,l.out _ hw];simp[List.getElem?_set,hid,hA.len▸hid]
   ·simp only[FP.or,yg,Nat.testBit_or,vh,Bool.or_eq_false_iff,decide_eq_false_iff_not]at hi
    rw[a.out i hi.2];simp[List.getElem?_set_ne hi.1]
  ·cases h
 |stk p ih=>
  intro m n v m' f h hA;simp only[Prog.run]at h;obtain⟨f1,h1,rfl⟩:=qt h;have hS:n.S=m.S:=(hA.sk (by simp[FP.or,skF])).symm;obtain⟨n',e,a⟩:=ih _ _ _ _ _ _ h1 hA.of_or;have l:=zby _ _ _ _ _ h1
  refine⟨n',by simp[Prog.run,hS,e,xo],a.len,fun i hi=>a.inn i (by simpa[FP.or,skF]using hi),fun i hi=>a.out i (by simpa[FP.or,skF]using hi),by simpa[FP.or,skF]using a.fz,
   fun hs=> ?_,fun hs=>by simp[FP.or,Go.Den.skF]at hs⟩
  by_cases hk:f1.sk=true
  ·exact a.skT hk
  ·simp only[Bool.not_eq_true]at hk;rw[a.skF hk,l.skF hk,hS]
 |setStk s' p ih=>
  intro m n v m' f h hA;simp only[Prog.run]at h;obtain⟨f1,h1,rfl⟩:=qt h;have hA1:Agree f1 ⟨m.H,m.Fz,s'⟩ ⟨n.H,n.Fz,s'⟩:=⟨hA.len,fun i hi=>hA.of_or.row i hi,fun i hi=>hA.of_or.fz i hi,fun _=>rfl⟩;obtain⟨n',e,a⟩:=ih _ _ _ _ _ h1 hA1;have l:=zby _ _ _ _ _ h1
  refine⟨n',by simp[Prog.run,e,xo],a.len,fun i hi=>a.inn i (by simpa[FP.or,skF]using hi),fun i hi=>a.out i (by simpa[FP.or,skF]using hi),by simpa[FP.or,skF]using a.fz,
   fun hs=> ?_,fun hs=>by simp[FP.or,Go.Den.skF]at hs⟩
  by_cases hk:f1.sk=true
  ·exact a.skT hk
  ·simp only[Bool.not_eq_true]at hk;rw[a.skF hk,l.skF hk]
theorem and_zero{a b:Nat}(h:Nat.beq (a&&&b) 0=true)(i:Nat)(ha:a.testBit i=true):b.testBit i=false:=by
 have h0:a&&&b=0:=Nat.eq_of_beq_eq_true h;have:(a&&&b).testBit i=false:=by rw[h0];simp
 rw[Nat.testBit_and,ha]at this;simpa using this
theorem yro{a b:Nat}{p q:Prog}{m m1 m2:Mem}{v u:V}{f g:FP}(h1:p.run (some a) m=some (v,m1,f))(h2:q.run (some b) m1=some (u,m2,g))(ha:f.apart g=true):
  ∃n1,q.run (some b) m=some (u,n1,g)∧p.run (some a) n1=some (v,m2,f):=by
 simp only[FP.apart,Bool.and_eq_true,Bool.not_eq_true',Bool.and_eq_false_iff]at ha;obtain⟨⟨hw,hr⟩,hs⟩:=ha;have l1:=zby _ _ _ _ _ h1
 have l2:=zby _ _ _ _ _ h2
  -- what one writes the other does not look at
 have fw:∀i,f.wr.testBit i=true→g.rd.testBit i=false∧g.wr.testBit i=false∧g.fr.testBit i=false:=fun i hi=>by
  have:=and_zero hw i hi;simp only[Nat.testBit_or,Bool.or_eq_false_iff]at this;exact⟨this.1.1,this.1.2,this.2⟩
 have gw:∀i,g.wr.testBit i=true→f.rd.testBit i=false∧f.fr.testBit i=false∧f.wr.testBit i=false:=fun i hi=>by
  have:=and_zero hr i hi;simp only[Nat.testBit_or,Bool.or_eq_false_iff]at this;refine⟨this.1,this.2,?_⟩;cases h:f.wr.testBit i with
  |false=>rfl
  |true=>rw[(fw i h).2.1]at hi;cases hi
 have A1:Agree g m1 m:=by
  refine⟨l1.len,fun i hi=> ?_,fun i hi=> ?_,fun hk=> ?_⟩
  ·cases h:f.wr.testBit i with
   |false=>exact l1.out i h
   |true=>simp[Nat.testBit_or,(fw i h).1,(fw i h).2.1]at hi
  ·rw[l1.fz,Nat.testBit_or,(gw i hi).2.1,Bool.or_false]
  ·rcases hs with h|h
   ·exact l1.skF h
   ·rw[h]at hk;cases hk
 obtain⟨n1,e1,a1⟩:=zpn _ _ _ _ _ _ h2 A1
 have A2:Agree f m n1:=by
  refine⟨a1.len.symm,fun i hi=> ?_,fun i hi=> ?_,fun hk=> ?_⟩
  ·refine(a1.out i ?_).symm
   cases h:g.wr.testBit i with
   |false=>rfl
   |true=>simp[Nat.testBit_or,(gw i h).1,(gw i h).2.2]at hi
  ·rw[a1.fz,Nat.testBit_or,(fw i hi).2.2,Bool.or_false]
  ·rcases hs with h|h
   ·rw[h]at hk;cases hk
   ·exact(a1.skF h).symm
 obtain⟨n2,e2,a2⟩:=zpn _ _ _ _ _ _ h1 A2;refine⟨n1,e1,?_⟩
 have:n2=m2:=by
  obtain⟨H2,F2,S2⟩:=n2;obtain⟨K2,E2,T2⟩:=m2;simp only[Mem.mk.injEq];refine⟨List.ext_getElem? fun i=> ?_,?_,?_⟩
  ·cases hf:f.wr.testBit i with
   |true=>
    have e1:=a2.inn i hf;have e2:=l2.out i (fw i hf).2.1;simp only at e1 e2;rw[e1,e2]
   |false=>
    have e1:=a2.out i hf;simp only at e1;rw[e1];cases hg:g.wr.testBit i with
    |true=>have e2:=a1.inn i hg;simp only at e2;rw[e2]
    |false=>
     have e2:=a1.out i hg;have e3:=l2.out i hg;have e4:=l1.out i hf;simp only at e3;rw[e2,e3,e4]
  ·have x1:=a2.fz;have x2:=a1.fz;have x3:=l2.fz;have x4:=l1.fz
   simp only at x1 x3;rw[x1,x2,x3,x4,Nat.or_assoc,Nat.or_assoc,Nat.or_comm f.fr]
  ·cases hf:f.sk with
   |true=>
    have hg:g.sk=false:=by rcases hs with h|h;(rw[h]at hf;cases hf);exact h
    have e1:=a2.skT hf;have e2:=l2.skF hg;simp only at e1 e2;rw[e1,e2]
   |false=>
    have e1:=a2.skF hf;simp only at e1;rw[e1];cases hg:g.sk with
    |true=>have e2:=a1.skT hg;simp only at e2;rw[e2]
    |false=>
     have e2:=a1.skF hg;have e3:=l2.skF hg;have e4:=l1.skF hf;simp only at e3;rw[e2,e3,e4]
 rw[←this];exact e2
abbrev Ev:=Nat→Option V
def kz(ρ:Ev):Operand→V
 | .tmp t=>match ρ t with|some v=>v|none=> .undef
 | .const v=>q7 v
 | .global g=> .glob g 0
 | .func f=> .fn f []
def qc(ρ:Ev)(d:Option Nat)(v:V):Ev:=match d with|none=>ρ|some t=>fun u=>if t=u then some v else ρ u
def St.ρ(st:St):Ev:=fun t=>lookup t st.env
def St.mem(st:St):Mem:=⟨st.H,st.Fz,st.S⟩
theorem zdx(st:St):kz st.ρ=st.eval:=by
 funext x;cases x<;>rfl
theorem ρ_put(st:St)(d:Option Nat)(v:V):(st.put d v).ρ=qc st.ρ d v:=by
 obtain⟨fn,nt,fp,env,H,Fz,S⟩:=st;cases d with
 |none=>rfl
 |some t=>funext u;simp only[St.put,St.ρ,qc,lookup_cons]
theorem zl9(st:St)(d:Option Nat)(v:V):(st.put d v).mem=st.mem:=by
 obtain⟨fn,nt,fp,env,H,Fz,S⟩:=st;cases d<;>rfl
theorem zep(st:St)(d:Option Nat)(v:V):(st.put d v).fn=st.fn:=by
 obtain⟨fn,nt,fp,env,H,Fz,S⟩:=st;cases d<;>rfl
theorem zgz(st:St)(d:Option Nat)(v:V):(st.put d v).nt=st.nt:=by
 obtain⟨fn,nt,fp,env,H,Fz,S⟩:=st;cases d<;>rfl
theorem zma(st:St)(d:Option Nat)(v:V):(st.put d v).fp=st.fp:=by
 obtain⟨fn,nt,fp,env,H,Fz,S⟩:=st;cases d<;>rfl
section
variable (ih:Ih) (T:Tab) (raw:Bool) (ops:Array Oper) (slot:Nat→Option Nat)
def w9(ev:Operand→V)(o:Oper):Prog:=
 match o.guard with
 |none=>opP ih T raw ev o
 |some (g,want)=>match j7 ops ev g with
  | .bool b=>(match b==want with|true=>opP ih T raw ev o|false=> .ret (.tup []))
  | .tup _=> .ret (.tup [])
  |_=> .fail
def jk(i:Nat)(ρ:Ev)(m:Mem):Option (Ev×Mem×FP):=
 match ops[i]? with
 |some o=>match (w9 ih T raw ops (kz ρ) o).run (slot i) m with
  |some (v,m',f)=>some (qc ρ o.dst v,m',f)
  |none=>none
 |none=>none
def runI:List Nat→Ev→Mem→Option (Ev×Mem×List FP)
 | [],ρ,m=>some (ρ,m,[])
 |i::l,ρ,m=>match jk ih T raw ops slot i ρ m with
  |some (ρ1,m1,f)=>match runI l ρ1 m1 with
   |some (ρ2,m2,F)=>some (ρ2,m2,f::F)
   |none=>none
  |none=>none
end
section
variable {α:Type} {ih:Ih} {T:Tab} {raw:Bool} {ops:Array Oper} {slot:Nat→Option Nat}
theorem zkm{i:Nat}{ρ ρ1:Ev}{m m1:Mem}{f:FP}(h:jk ih T raw ops slot i ρ m=some (ρ1,m1,f)):
  ∃o v,ops[i]? =some o∧(w9 ih T raw ops (kz ρ) o).run (slot i) m=some (v,m1,f)∧ρ1=qc ρ o.dst v:=by
 unfold jk at h;split at h
 ·rename_i o ho
  split at h
  ·rename_i v m' f' hr
   simp only[Option.some.injEq,Prod.mk.injEq]at h;obtain⟨rfl,rfl,rfl⟩:=h;exact⟨o,v,ho,hr,rfl⟩
  ·cases h
 ·cases h
theorem zgm{i:Nat}{l:List Nat}{ρ ρ2:Ev}{m m2:Mem}{F:List FP}(h:runI ih T raw ops slot (i::l) ρ m=some (ρ2,m2,F)):
  ∃ρ1 m1 f F',jk ih T raw ops slot i ρ m=some (ρ1,m1,f)∧runI ih T raw ops slot l ρ1 m1=some (ρ2,m2,F')∧F=f::F':=by
 simp only[runI]at h;split at h
 ·rename_i ρ1 m1 f h1
  split at h
  ·rename_i ρ2' m2' F' h2
   simp only[Option.some.injEq,Prod.mk.injEq]at h;obtain⟨rfl,rfl,rfl⟩:=h;exact⟨_,_,_,_,h1,h2,rfl⟩
  ·cases h
 ·cases h
theorem zpo{i:Nat}{l:List Nat}{ρ ρ1 ρ2:Ev}{m m1 m2:Mem}{f:FP}{F:List FP}(h:jk ih T raw ops slot i ρ m=some (ρ1,m1,f))(h':runI ih T raw ops slot l ρ1 m1=some (ρ2,m2,F)):
  runI ih T raw ops slot (i::l) ρ m=some (ρ2,m2,f::F):=by
 simp[runI,h,h']
theorem ys3(st:St)(d:Option Nat)(v:V)(h:∀t,d=some t→lookup t st.env=some v):(st.put d v).ρ=st.ρ:=by
 rw[ρ_put];cases d with
 |none=>rfl
 |some t=>
  funext u;simp only[qc];by_cases hu:t=u
  ·subst hu;simp[St.ρ,h t rfl]
  ·simp[hu]
theorem yo4{st:St}{g:Nat}{b:Bool}(h:j7 ops st.eval g= .bool b):∀t,(match ops[g]? with|some o=>o.dst|none=>none)=some t→lookup t st.env=some (.bool b):=by
 intro t ht;unfold j7 at h;split at ht
 ·rename_i o ho
  rw[ho]at h;simp only[ht,St.eval]at h;split at h
  ·rename_i v hv;rw[hv,h]
  ·cases h
 ·cases ht
theorem yk8{sl:Option Nat}{st:St}{o:Oper}{k:V→St→FP→Option α}{r:α}(h:opK ih T sl st o k=some r):
  ∃v m f st',(opP ih T (T.raw st.fn) st.eval o).run sl st.mem=some (v,m,f)∧k v st' f=some r∧st'.ρ=st.ρ∧st'.mem=m∧st'.fn=st.fn∧st'.nt=st.nt∧st'.fp=st.fp:=by
 unfold opK at h;obtain⟨v,m,f,h1,h2⟩:=zdq _ _ _ _ _ _ _ h;refine⟨v,m,f,⟨st.fn,st.nt,st.fp,st.env,m.H,m.Fz,m.S⟩,h1,?_,rfl,rfl,rfl,rfl,rfl⟩;have e:FP.none.or f=f:=by cases f;simp[FP.or,FP.none]
 rw[e]at h2;exact h2
theorem xeo{st:St}{o:Oper}(h:ve st o.dst=true):∀t,o.dst=some t→t<st.nt:=by
 intro t ht;rw[ht]at h;exact Nat.le_of_ble_eq_true h
theorem yk6:∀(os:List Oper) (j:Nat) (st:St) (fps:List FP) (k:St→List FP→Option α) (r:α),opsK ih T ops slot j os st fps k=some r→(∀i,os[i]? =ops[j+i]?)→
  ∃ρ F st',runI ih T (T.raw st.fn) ops slot (List.range' j os.length) st.ρ st.mem=some (ρ,st'.mem,F)∧k st' (F.reverse++fps)=some r∧st'.ρ=ρ∧st'.fn=st.fn∧st'.nt=st.nt∧st'.fp=st.fp∧
   ∀o∈os,∀t,o.dst=some t→t<st.nt:=by
 intro os
 induction os with
 |nil=>intro j st fps k r h hos;exact⟨st.ρ,[],st,rfl,by simpa[opsK]using h,rfl,rfl,rfl,rfl,fun o ho=>by cases ho⟩
 |cons o os iho=>
  intro j st fps k r h hos;have hj:ops[j]? =some o:=by have:=hos 0;simpa using this.symm
  have hos':∀i,os[i]? =ops[j+1+i]? :=fun i=>by have:=hos (i+1);rw[List.getElem?_cons_succ]at this;rw[this];congr 1;omega
  simp only[opsK]at h;split at h
  ·cases h
  rename_i hd
  have hdst:=xeo (o:=o) hd
    -- one operation, and the rest
  have fin:∀(st1:St) (v:V) (f:FP),(∃ev,ev=st.ρ∧jk ih T (T.raw st.fn) ops slot j st.ρ st.mem=some (qc st.ρ o.dst v,st1.mem,f))→st1.ρ=st.ρ→st1.fn=st.fn→st1.nt=st.nt→st1.fp=st.fp→
    opsK ih T ops slot (j+1) os (st1.put o.dst v) (f::fps) k=some r→
    ∃ρ F st',runI ih T (T.raw st.fn) ops slot (List.range' j (o::os).length) st.ρ st.mem=some (ρ,st'.mem,F)∧k st' (F.reverse++fps)=some r∧st'.ρ=ρ∧st'.fn=st.fn∧st'.nt=st.nt∧st'.fp=st.fp∧
     ∀o'∈o::os,∀t,o'.dst=some t→t<st.nt:=by
   rintro st1 v f ⟨_,_,h1⟩ hρ hfn hnt hfp h2;obtain⟨ρ,F,st',e1,e2,e3,e4,e5,e6,e7⟩:=iho (j+1) _ _ _ _ h2 hos';rw[zep,hfn,ρ_put,hρ,zl9]at e1;refine⟨ρ,f::F,st',?_,by simpa using e2,e3,by rw[e4,zep,hfn],by rw[e5,zgz,hnt],by rw[e6,zma,hfp],fun o' ho' t ht=> ?_⟩
   ·rw[List.length_cons,List.range'_succ]
    exact zpo h1 e1
   ·rcases List.mem_cons.1 ho' with rfl|ho'
    ·exact hdst t ht
    ·have:=e7 o' ho' t ht;rw[zgz,hnt]at this;exact this
  have step:∀(v:V) (m:Mem) (f:FP),(w9 ih T (T.raw st.fn) ops st.eval o).run (slot j) st.mem=some (v,m,f)→jk ih T (T.raw st.fn) ops slot j st.ρ st.mem=some (qc st.ρ o.dst v,m,f):=by
   intro v m f hr;simp[jk,hj,zdx,hr]
  split at h
  ·rename_i hg
   obtain⟨v,m,f,st1,h1,h2,h3,h4,h5,h6,h7⟩:=yk8 h;exact fin st1 v f ⟨_,rfl,by rw[h4];exact step v m f (by simp only[w9,hg];exact h1)⟩ h3 h5 h6 h7 h2
  ·rename_i g want hg
   split at h
   ·rename_i b hy
    have hsame:∀b',b'=b→((st.put (match ops[g]? with|some o=>o.dst|none=>none) (.bool b')).ρ=st.ρ):=fun b' hb=>ys3 _ _ _ (by subst hb;exact yo4 hy)
    have run':∀b',b'=b→want=b→∀{k':V→St→FP→Option α},opK ih T (slot j) (st.put (match ops[g]? with|some o=>o.dst|none=>none) (.bool b')) o k'=some r→
      ∃v m f st1,jk ih T (T.raw st.fn) ops slot j st.ρ st.mem=some (qc st.ρ o.dst v,m,f)∧k' v st1 f=some r∧st1.ρ=st.ρ∧st1.mem=m∧st1.fn=st.fn∧st1.nt=st.nt∧st1.fp=st.fp:=by
     intro b' hb hw k' h';obtain⟨v,m,f,st1,h1,h2,h3,h4,h5,h6,h7⟩:=yk8 h';rw[zep,zl9,←zdx,hsame b' hb,zdx]at h1;exact⟨v,m,f,st1,step v m f (by subst hw;simp only[w9,hg,hy,beq_self_eq_true];exact h1),h2,h3.trans (hsame b' hb),h4,by rw[h5,zep],by rw[h6,zgz],by rw[h7,zma]⟩
    have skip':∀b',b'=b→(b==want)=false→opsK ih T ops slot (j+1) os ((st.put (match ops[g]? with|some o=>o.dst|none=>none) (.bool b')).put o.dst (.tup [])) (.none::fps) k=some r→
      ∃ρ F st',runI ih T (T.raw st.fn) ops slot (List.range' j (o::os).length) st.ρ st.mem=some (ρ,st'.mem,F)∧k st' (F.reverse++fps)=some r∧st'.ρ=ρ∧st'.fn=st.fn∧st'.nt=st.nt∧st'.fp=st.fp∧
       ∀o'∈o::os,∀t,o'.dst=some t→t<st.nt:=by
     intro b' hb hw h';refine fin (st.put _ (.bool b')) (.tup []) .none ⟨_,rfl,?_⟩ (hsame b' hb) (zep ..) (zgz ..) (zma ..) h';rw[zl9];exact step _ _ _ (by simp only[w9,hg,hy,hw];rfl)
    split at h
    ·simp only[br]at h
     cases b with
     |true=>
      obtain⟨v,m,f,st1,h1,h2,h3,h4,h5,h6,h7⟩:=run' true rfl rfl h;exact fin st1 v f ⟨_,rfl,by rw[h4];exact h1⟩ h3 h5 h6 h7 h2
     |false=>exact skip' false rfl rfl h
    ·simp only[br]at h
     cases b with
     |true=>exact skip' true rfl rfl h
     |false=>
      obtain⟨v,m,f,st1,h1,h2,h3,h4,h5,h6,h7⟩:=run' false rfl rfl h;exact fin st1 v f ⟨_,rfl,by rw[h4];exact h1⟩ h3 h5 h6 h7 h2
   ·rename_i vs hy
    exact fin st (.tup []) .none ⟨_,rfl,step _ _ _ (by simp only[w9,hg,hy];rfl)⟩ rfl rfl rfl rfl h
   ·cases h
theorem yuq{ev ev':Operand→V}(o:Oper)(h:∀x∈o.op.operands,ev x=ev' x):opP ih T raw ev o=opP ih T raw ev' o:=by
 obtain⟨dst,op,type,pos,after,guard⟩:=o
 have pairs:∀ps:Array (Nat×Operand),(∀x∈(ps.toList.map (·.2)).toArray,ev x=ev' x)→
   (ps.toList.map fun(i,x)=>(i,ev x))=(ps.toList.map fun(i,x)=>(i,ev' x)):=fun ps hp=>
  List.map_congr_left fun p hm=>by
   obtain⟨i,x⟩:=p;have hx:x∈(ps.toList.map (·.2)).toArray:=by simp only[List.mem_toArray,List.mem_map];exact⟨(i,x),hm,rfl⟩
   simp only[hp x hx]
 have pairs':∀ps:Array (Nat×Operand),(∀x∈(ps.toList.map (·.2)).toArray,ev x=ev' x)→
   (ps.toList.map fun(_,x)=>ev x)=(ps.toList.map fun(_,x)=>ev' x):=fun ps hp=>
  List.map_congr_left fun p hm=>by
   obtain⟨i,x⟩:=p;exact hp x (by simp only[List.mem_toArray,List.mem_map];exact⟨(i,x),hm,rfl⟩)
 have arr:∀(xs:Array Operand),(∀x∈xs,ev x=ev' x)→xs.toList.map ev=xs.toList.map ev':=fun xs hx=>List.map_congr_left fun x hm=>hx x (by simpa using hm);cases op<;>simp only[Op.operands]at h<;>simp only[opP]
 case build t ps=>rw[pairs ps h]
 case buildSlice t n ps=>rw[pairs' ps h]
 case makeFunc fn first captured=>
  have hc:captured.toList.map ev=captured.toList.map ev':=arr captured fun x hx=>h x (by simp[hx]);have hf:first.toList.map ev=first.toList.map ev':=arr first fun x hx=>h x (by simp[hx])
  obtain⟨l⟩:=first
  obtain⟨l2⟩:=captured;cases fn<;>cases l<;>first|rfl|simp only[hc]|(cases l2<;>first|rfl|simp only[show List.map ev _=List.map ev' _ from hf])
 case call c=>
  have ha:c.args.toList.map ev=c.args.toList.map ev':=arr c.args fun x hx=>h x (by simp[Call.operands,hx]);simp only[ha];cases hc:c.callee with
  |value f=>have hf:ev f=ev' f:=h f (by simp[Call.operands,hc]);cases f<;>simp only[hf]
  |invoke r m=>rfl
  |builtin b=>rfl
 case makeMap t r=>cases r<;>simp_all
 case slice t x lo hi mx=>
  cases mx with
  |some _=>cases lo<;>cases hi<;>first|rfl|simp_all
  |none=>cases lo<;>cases hi<;>simp_all
 case next x b=>cases b<;>simp_all
 all_goals (first|rfl|(simp_all;done))
theorem ymt{ρ:Ev}{d:Option Nat}{v:V}{x:Operand}(h:∀t,d=some t→x≠ .tmp t):kz (qc ρ d v) x=kz ρ x:=by
 cases d with
 |none=>rfl
 |some t=>
  cases x with
  |tmp u=>
   have:t≠u:=fun e=>h t rfl (by rw[e]);simp[kz,qc,this]
  |_=>rfl
theorem ynh{ρ:Ev}{d:Option Nat}{v:V}(o:Oper)(h:∀t,d=some t→t∉o.looksAt ops):w9 ih T raw ops (kz (qc ρ d v)) o=w9 ih T raw ops (kz ρ) o:=by
 have h1:opP ih T raw (kz (qc ρ d v)) o=opP ih T raw (kz ρ) o:=yuq o fun x hx=>ymt fun t ht he=>h t ht (by
  subst he;exact List.mem_append_left _ (List.mem_filterMap.2 ⟨.tmp t,by simpa using hx,rfl⟩))
 unfold w9;rw[h1];cases hg:o.guard with
 |none=>rfl
 |some gw=>
  obtain⟨g,want⟩:=gw
  have:j7 ops (kz (qc ρ d v)) g=j7 ops (kz ρ) g:=by
   unfold j7;cases ho:ops[g]? with
   |none=>rfl
   |some og=>
    cases hd:og.dst with
    |none=>simp only[hd]
    |some t=>
     simp only[hd]
     exact ymt fun u hu he=>h u hu (by
      simp only[Operand.tmp.injEq]at he;subst he;exact List.mem_append_right _ (by simp[hg,ho,hd]))
  simp only[this]
theorem yqe{ρ:Ev}{d e:Option Nat}{v u:V}(h:∀t,d=some t→e≠some t):qc (qc ρ d v) e u=qc (qc ρ e u) d v:=by
 cases d with
 |none=>rfl
 |some s=>
  cases e with
  |none=>rfl
  |some t=>
   funext x;have hne:s≠t:=fun he=>h s rfl (he▸rfl);simp only[qc];by_cases h1:t=x
   ·subst h1;simp[hne]
   ·by_cases h2:s=x<;>simp[h1,h2]
theorem yqv{i j a b:Nat}(hsi:slot i=some a)(hsj:slot j=some b){oi oj:Oper}(hi:ops[i]? =some oi)(hj:ops[j]? =some oj)(hap:oi.apart ops oj=true)
  {ρ ρ1 ρ2:Ev}{m m1 m2:Mem}{f g:FP}(h1:jk ih T raw ops slot i ρ m=some (ρ1,m1,f))(h2:jk ih T raw ops slot j ρ1 m1=some (ρ2,m2,g))(ha:f.apart g=true):
  ∃ρ1' n1,jk ih T raw ops slot j ρ m=some (ρ1',n1,g)∧jk ih T raw ops slot i ρ1' n1=some (ρ2,m2,f):=by
 obtain⟨o,v,ho,r1,rfl⟩:=zkm h1;obtain rfl:oi=o:=by rw[hi]at ho;exact Option.some.inj ho
 obtain⟨o,u,ho',r2,rfl⟩:=zkm h2;obtain rfl:oj=o:=by rw[hj]at ho';exact Option.some.inj ho'
 obtain⟨ha1,ha2,ha3⟩:=Oper.apart_spec hap;rw[ynh oj ha1,hsj]at r2;rw[hsi]at r1;obtain⟨n1,e1,e2⟩:=yro r1 r2 ha;refine⟨qc ρ oj.dst u,n1,?_,?_⟩
 ·simp[jk,hj,hsj,e1]
 ·simp[jk,hi,hsi,ynh oi ha3,e2,yqe ha2]
theorem yrx(hs:∀i,∃a,slot i=some a){φ:Nat→FP}:∀(l1:List Nat) {i:Nat} {l2:List Nat} {ρ ρ':Ev} {m m':Mem},
  runI ih T raw ops slot (l1++i::l2) ρ m=some (ρ',m',(l1++i::l2).map φ)→
  (∀j∈l1,∃oj oi,ops[j]? =some oj∧ops[i]? =some oi∧oj.apart ops oi=true∧(φ j).apart (φ i)=true)→
  ∃ρ1 m1,jk ih T raw ops slot i ρ m=some (ρ1,m1,φ i)∧runI ih T raw ops slot (l1++l2) ρ1 m1=some (ρ',m',(l1++l2).map φ):=by
 intro l1
 induction l1 with
 |nil=>
  intro i l2 ρ ρ' m m' h _;obtain⟨ρ1,m1,f,F,h1,h2,hF⟩:=zgm h;simp only[List.nil_append,List.map_cons,List.cons.injEq]at hF;obtain⟨rfl,rfl⟩:=hF;exact⟨ρ1,m1,h1,h2⟩
 |cons j l1 ihl=>
  intro i l2 ρ ρ' m m' h hap;obtain⟨ρ1,m1,f,F,h1,h2,hF⟩:=zgm h;simp only[List.cons_append,List.map_cons,List.cons.injEq]at hF;obtain⟨rfl,rfl⟩:=hF;obtain⟨ρ2,m2,e1,e2⟩:=ihl h2 fun j' hj'=>hap j' (List.mem_cons_of_mem _ hj');obtain⟨oj,oi,hoj,hoi,ha,hf⟩:=hap j (List.mem_cons_self ..);obtain⟨a,hsa⟩:=hs j;obtain⟨b,hsb⟩:=hs i;obtain⟨ρ1',n1,s1,s2⟩:=yqv hsa hsb hoj hoi ha h1 e1 hf;exact⟨ρ1',n1,s1,zpo s2 e2⟩
def zj2(acc:List Nat)(o:Oper):Nat:=o.after.toList.foldl (fun s e=>match Region.binds .any e with|true=>s|||(bit e.on|||acc.getD e.on 0)|false=>s) 0
def zgn(ps:List (Nat×Nat))(ops:Array Oper)(b i:Nat)(o:Oper):Nat→Bool
 |0=>true
 |j+1=>(b.testBit j||(ps.any (fun p=>Nat.beq p.1 j&&Nat.beq p.2 i)&&(match ops[j]? with|some oj=>oj.apart ops o|none=>false)))&&zgn ps ops b i o j
def zgo(ps:List (Nat×Nat))(ops:Array Oper):Nat→List Nat→List Oper→Bool
 |_,_,[]=>true
 |i,acc,o::r=>(o.after.toList.all fun e=> !Region.binds .any e||Nat.blt e.on i)&&(zgn ps ops (zj2 acc o) i o i&&zgo ps ops (i+1) (acc++ [zj2 acc o]) r)
def zpv(ps:List (Nat×Nat))(ops:Array Oper):Bool:=zgo ps ops 0 [] ops.toList
inductive Before (ops:Array Oper):Nat→Nat→Prop where
 |edge {i:Nat} {o:Oper} {e:Edge}:ops[i]? =some o→e∈o.after→Region.binds .any e=true→Before ops e.on i
 |trans {i:Nat} {o:Oper} {e:Edge} {j:Nat}:ops[i]? =some o→e∈o.after→Region.binds .any e=true→Before ops j e.on→Before ops j i
theorem yos{ops:Array Oper}{acc:List Nat}{i:Nat}{o:Oper}(hi:ops[i]? =some o)(hacc:∀k j,(acc.getD k 0).testBit j=true→Before ops j k)(j:Nat)
  (h:(zj2 acc o).testBit j=true):Before ops j i:=by
 unfold zj2 at h
 have key:∀(es:List Edge) (s:Nat),(∀e∈es,e∈o.after)→(s.testBit j=true→Before ops j i)→
   (es.foldl (fun s e=>match Region.binds .any e with|true=>s|||(bit e.on|||acc.getD e.on 0)|false=>s) s).testBit j=true→Before ops j i:=by
  intro es
  induction es with
  |nil=>intro s _ hs h;exact hs h
  |cons e es ihe=>
   intro s he hs h;simp only[List.foldl_cons]at h;refine ihe _ (fun e' he'=>he e' (List.mem_cons_of_mem _ he')) ?_ h;intro h';cases hb:Region.binds .any e with
   |false=>rw[hb]at h';exact hs h'
   |true=>
    rw[hb]at h';simp only[Nat.testBit_or,Bool.or_eq_true,vh,decide_eq_true_eq]at h';rcases h' with h'|h'|h'
    ·exact hs h'
    ·subst h';exact .edge hi (he e (List.mem_cons_self ..)) hb
    ·exact .trans hi (he e (List.mem_cons_self ..)) hb (hacc _ _ h')
 exact key _ 0 (fun e he=>by simpa using he) (by simp) h
theorem yr5{ps:List (Nat×Nat)}{ops:Array Oper}{b i:Nat}{o:Oper}:∀(n:Nat),zgn ps ops b i o n=true→∀j,j<n→
  b.testBit j=true∨((j,i)∈ps∧∃oj,ops[j]? =some oj∧oj.apart ops o=true):=by
 intro n
 induction n with
 |zero=>intro _ j hj;omega
 |succ n ih=>
  intro h j hj;simp only[zgn,Bool.and_eq_true,Bool.or_eq_true]at h;by_cases hjn:j=n
  ·subst hjn
   rcases h.1 with h1|⟨h1,h2⟩
   ·exact .inl h1
   ·refine .inr ⟨?_,?_⟩
    ·obtain⟨p,hp,he⟩:=List.any_eq_true.1 h1
     simp only[Bool.and_eq_true]at he;have e1:=Nat.eq_of_beq_eq_true he.1;have e2:=Nat.eq_of_beq_eq_true he.2;rw[←e1,←e2];exact hp
    ·split at h2
     ·rename_i oj hoj;exact⟨oj,hoj,h2⟩
     ·cases h2
  ·exact ih h.2 j (by omega)
structure RegOk (ps:List (Nat×Nat)) (ops:Array Oper):Prop where
 back:∀(i:Nat) o,ops[i]? =some o→∀e∈o.after,Region.binds .any e=true→e.on<i
 pair:∀i o,ops[i]? =some o→∀j,j<i→Before ops j i∨((j,i)∈ps∧∃oj,ops[j]? =some oj∧oj.apart ops o=true)
theorem ysq{ps:List (Nat×Nat)}{ops:Array Oper}(h:zpv ps ops=true):RegOk ps ops:=by
 have key:∀(os:List Oper) (i:Nat) (acc:List Nat),zgo ps ops i acc os=true→(∀k,os[k]? =ops[i+k]?)→acc.length=i→(∀k j,(acc.getD k 0).testBit j=true→Before ops j k)→
   ∀k o,i≤k→ops[k]? =some o→(∀e∈o.after,Region.binds .any e=true→e.on<k)∧∀j,j<k→Before ops j k∨((j,k)∈ps∧∃oj,ops[j]? =some oj∧oj.apart ops o=true):=by
  intro os
  induction os with
  |nil=>
   intro i acc _ hos _ _ k o hk ho;have:=hos (k- i);rw[show i+(k- i)=k by omega,ho]at this;simp at this
  |cons o' os iho=>
   intro i acc h hos hlen hacc k o hk ho;simp only[zgo,Bool.and_eq_true]at h;have hi:ops[i]? =some o':=by have:=hos 0;simpa using this.symm
   by_cases hki:k=i
   ·subst hki
    obtain rfl:o'=o:=by rw[hi]at ho;exact Option.some.inj ho
    refine⟨fun e he hb=> ?_,fun j hj=> ?_⟩
    ·have:=List.all_eq_true.1 h.1 e (by simpa using he)
     simp only[hb,Bool.not_true,Bool.false_or]at this;exact Nat.le_of_ble_eq_true this
    ·rcases yr5 _ h.2.1 j hj with h1|h1
     ·exact .inl (yos hi hacc j h1)
     ·exact .inr h1
   ·refine iho (i+1) _ h.2.2 (fun k=>by have:=hos (k+1);rw[List.getElem?_cons_succ]at this;rw[this];congr 1;omega) (by simp[hlen]) ?_ k o (by omega) ho
    intro k' j hj;rw[List.getD_eq_getElem?_getD]at hj;by_cases hlt:k'<acc.length
    ·rw[List.getElem?_append_left hlt,←List.getD_eq_getElem?_getD]at hj;exact hacc k' j hj
    ·rw[List.getElem?_append_right (by omega)]at hj
     by_cases he:k'=acc.length
     ·subst he
      rw[hlen];refine yos hi hacc j ?_;simpa using hj
     ·rw[List.getElem?_eq_none (by simp;omega)]at hj
      simp at hj
 refine⟨fun i o ho=>(key _ 0 [] h (by simp) rfl (by simp) i o (by omega) ho).1,fun i o ho=>(key _ 0 [] h (by simp) rfl (by simp) i o (by omega) ho).2⟩
section wp
variable {F:Fence} {n:Nat} {P:Program} {Q:Exit→Act→World→Prop}
def zo0(ih:Ih)(T:Tab)(raw:Bool)(ops:Array Oper)(slot:Nat→Option Nat)(F:Fence)(n:Nat)(P:Program)(Q:Exit→Act→World→Prop)(J:Ev→Mem→Act→World→Prop):Prop:=
 ∀i ρ m ρ1 m1 f a w (K:Act→World→Prop),jk ih T raw ops slot i ρ m=some (ρ1,m1,f)→J ρ m a w→(∀a' w',J ρ1 m1 a' w'→K a' w')→wpOpIn F n P ops Q i K a w
theorem ysn{J:Ev→Mem→Act→World→Prop}(hk:zo0 ih T raw ops slot F n P Q J):∀(l:List Nat) (ρ:Ev) (m:Mem) (ρ':Ev) (m':Mem) (Fs:List FP) (a:Act) (w:World),
  runI ih T raw ops slot l ρ m=some (ρ',m',Fs)→J ρ m a w→(∀a' w',J ρ' m' a' w'→Q .normal a' w')→wpOpsIn F n P ops Q l a w:=by
 intro l
 induction l with
 |nil=>
  intro ρ m ρ' m' Fs a w h hJ hQ;simp only[runI,Option.some.injEq,Prod.mk.injEq]at h;obtain⟨rfl,rfl,rfl⟩:=h;exact hQ a w hJ
 |cons i l ihl=>
  intro ρ m ρ' m' Fs a w h hJ hQ;obtain⟨ρ1,m1,f,F',h1,h2,rfl⟩:=zgm h;rw[wpOpsIn_cons];exact hk i _ _ _ _ _ _ _ _ h1 hJ fun a' w' hJ'=>ihl _ _ _ _ _ _ _ h2 hJ' hQ
def rem(ops:Array Oper)(listed:Array Bool):List Nat:=(List.range ops.size).filter fun i=> !listed.getD i true
theorem zms{listed:Array Bool}{i:Nat}(hl:listed.size=ops.size):i∈rem ops listed↔listed.getD i true=false:=by
 simp only[rem,List.mem_filter,List.mem_range,Bool.not_eq_true',and_iff_right_iff_imp];intro h;rw[←hl];by_cases hi:i<listed.size
 ·exact hi
 ·simp[Array.getD_eq_getD_getElem?,Array.getElem?_eq_none (Nat.le_of_not_lt hi)]at h
theorem ysm{listed:Array Bool}(hl:listed.size=ops.size){i:Nat}(hi:listed.getD i true=false):
  ∃l1 l2,rem ops listed=l1++i::l2∧rem ops (listed.setIfInBounds i true)=l1++l2∧(∀j∈l1,j<i∧listed.getD j true=false):=by
 have hlt:i<ops.size:=by
  rw[←hl];by_cases h:i<listed.size
  ·exact h
  ·simp[Array.getD_eq_getD_getElem?,Array.getElem?_eq_none (Nat.le_of_not_lt h)]at hi
 have hsplit:List.range ops.size=List.range i++i::List.range' (i+1) (ops.size- i- 1):=by
  rw[List.range_eq_range',List.range_eq_range',show ops.size=i+(1+(ops.size- i- 1)) by omega,←List.range'_append_1,←List.range'_append_1];simp
 have hset:∀j,(listed.setIfInBounds i true).getD j true=if i=j then true else listed.getD j true:=by
  intro j;simp only[Array.getD_eq_getD_getElem?,Array.getElem?_setIfInBounds];by_cases h:i=j
  ·subst h;simp[hl,hlt]
  ·simp[h]
 refine⟨(List.range i).filter (fun j=> !listed.getD j true),(List.range' (i+1) (ops.size- i- 1)).filter (fun j=> !listed.getD j true),?_,?_,?_⟩
 ·unfold rem
  rw[hsplit,List.filter_append,List.filter_cons,hi];simp
 ·unfold rem
  rw[hsplit,List.filter_append,List.filter_cons,hset];simp only[if_true,Bool.not_true,Bool.false_eq_true,if_false];congr 1
  ·apply List.filter_congr
   intro j hj;rw[hset,if_neg (by simp at hj;omega)]
  ·apply List.filter_congr
   intro j hj;rw[hset,if_neg (by simp[List.mem_range'_1]at hj;omega)]
 ·intro j hj
  simpa using hj
theorem yso{J:Ev→Mem→Act→World→Prop}(hk:zo0 ih T raw ops slot F n P Q J)(hs:∀i,∃a,slot i=some a){ps:List (Nat×Nat)}(hok:RegOk ps ops){φ:Nat→FP}
  (hφ:∀j i,(j,i)∈ps→(φ j).apart (φ i)=true){ρ':Ev}{m':Mem}(hQ:∀a' w',J ρ' m' a' w'→Q .normal a' w'):
  ∀(fuel:Nat) (listed:Array Bool) (ρ:Ev) (m:Mem) (a:Act) (w:World),listed.size=ops.size→
   (∀k o,ops[k]? =some o→listed.getD k true=true→∀e∈o.after,Region.binds .any e=true→listed.getD e.on true=true)→
   (rem ops listed).length≤fuel→runI ih T raw ops slot (rem ops listed) ρ m=some (ρ',m',(rem ops listed).map φ)→J ρ m a w→wpAnyIn F n P .any ops Q fuel listed a w:=by
 have hready:∀(listed:Array Bool),listed.size=ops.size→rem ops listed= []→Region.ready .any ops listed= []:=by
  intro listed hl h;rw[List.eq_nil_iff_forall_not_mem];intro i hi;have:=(zms hl).2 (mem_ready.1 hi).1;rw[h]at this;cases this
 intro fuel
 induction fuel with
 |zero=>
  intro listed ρ m a w hl hc hlen hr hJ;have h0:rem ops listed= []:=List.length_eq_zero_iff.1 (by omega);rw[h0]at hr;simp only[runI,List.map_nil,Option.some.injEq,Prod.mk.injEq,and_true]at hr;obtain⟨rfl,rfl⟩:=hr;exact⟨hready listed hl h0,hQ a w hJ⟩
 |succ fuel ihf=>
  intro listed ρ m a w hl hc hlen hr hJ;refine⟨fun h0=> ?_,fun i hi=> ?_⟩
  ·-- nothing is ready:nothing is left
   have hnil:rem ops listed= []:=by
    refine Classical.byContradiction fun hne=> ?_
        -- the least index that is left would be ready
    have hex:∃i,listed.getD i true=false:=by
     obtain⟨i,hi⟩:=List.exists_mem_of_ne_nil _ hne;exact⟨i,(zms hl).1 hi⟩
    have hleast:∀n,(∃i,i<n∧listed.getD i true=false)→∃i,listed.getD i true=false∧∀j,j<i→listed.getD j true=true:=by
     intro n
     induction n with
     |zero=>rintro⟨i,hi,_⟩;omega
     |succ n ihn=>
      rintro⟨i,hi,hf⟩;by_cases h:∃i,i<n∧listed.getD i true=false
      ·exact ihn h
      ·refine⟨i,hf,fun j hj=> ?_⟩
       cases hjv:listed.getD j true with
       |true=>rfl
       |false=>exact absurd ⟨j,by omega,hjv⟩ h
    obtain⟨i0,hi0⟩:=hex;obtain⟨i,hi,hmin⟩:=hleast (i0+1) ⟨i0,by omega,hi0⟩
    have hin:i∈Region.ready .any ops listed:=by
     have hsz:i<ops.size:=by
      have:=(zms (ops:=ops) hl).2 hi;simp only[rem,List.mem_filter,List.mem_range]at this;exact this.1
     refine mem_ready.2 ⟨hi,ops[i],by simp[hsz],fun e he hb=> ?_⟩;have hlt:=hok.back i ops[i] (by simp[hsz]) e he hb;have:=hmin e.on hlt;rw[Array.getD_eq_getD_getElem?]at this⊢;rw[Array.getElem?_eq_getElem (by omega)]at this⊢;exact this
    rw[h0]at hin;cases hin
   rw[hnil]at hr;simp only[runI,List.map_nil,Option.some.injEq,Prod.mk.injEq,and_true]at hr;obtain⟨rfl,rfl⟩:=hr;exact hQ a w hJ
  ·obtain⟨hun,oi,hoi,hedges⟩:=mem_ready.1 hi
   have hedges':∀e∈oi.after,Region.binds .any e=true→listed.getD e.on true=true:=by
    intro e he hb;have:=hedges e he hb;rw[Array.getD_eq_getD_getElem?]at this⊢;cases hx:listed[e.on]? with
    |none=>rfl
    |some b=>rw[hx]at this;exact this
   obtain⟨l1,l2,e1,e2,hl1⟩:=ysm (ops:=ops) hl hun
   rw[e1]at hr hlen
      -- what is before i is listed
   have hbef:∀j k,Before ops j k→(∀o,ops[k]? =some o→∀e∈o.after,Region.binds .any e=true→listed.getD e.on true=true)→listed.getD j true=true:=by
    intro j k hb
    induction hb with
    |edge ho he hb=>intro h;exact h _ ho _ he hb
    |trans ho he hb _ ihb=>
     intro h;exact ihb fun o' ho'=>hc _ o' ho' (h _ ho _ he hb)
   have happ:∀j∈l1,∃oj oi,ops[j]? =some oj∧ops[i]? =some oi∧oj.apart ops oi=true∧(φ j).apart (φ i)=true:=by
    intro j hj;obtain⟨hji,hjl⟩:=hl1 j hj;rcases hok.pair i oi hoi j hji with hb|⟨hp,oj,hoj,ha⟩
    ·have:=hbef j i hb fun o ho=>by
      obtain rfl:oi=o:=by rw[hoi]at ho;exact Option.some.inj ho
      exact hedges'
     rw[hjl]at this;cases this
    ·exact⟨oj,oi,hoj,hoi,ha,hφ j i hp⟩
   obtain⟨ρ1,m1,s1,s2⟩:=yrx hs l1 hr happ;refine hk i _ _ _ _ _ _ _ _ s1 hJ fun a' w' hJ'=> ?_;rw[←e2]at s2;refine ihf _ _ _ _ _ (by simp[hl]) ?_ ?_ s2 hJ'
   ·intro k o ho hkl e he hb
    have hset:∀j,(listed.setIfInBounds i true).getD j true=if i=j then true else listed.getD j true:=by
     intro j;simp only[Array.getD_eq_getD_getElem?,Array.getElem?_setIfInBounds];by_cases h:i=j
     ·subst h
      by_cases hsz:i<listed.size<;>simp[hsz]
     ·simp[h]
    rw[hset]at hkl⊢;by_cases hik:i=e.on
    ·simp[hik]
    ·rw[if_neg hik]
     by_cases hk':i=k
     ·subst hk'
      obtain rfl:oi=o:=by rw[hoi]at ho;exact Option.some.inj ho
      exact hedges' e he hb
     ·rw[if_neg hk']at hkl
      exact hc k o ho hkl e he hb
   ·rw[e2]
    simp at hlen⊢;omega
end wp
end
def Res(slot:Option Nat)(p:Prog)(m:Mem)(x:V)(m':Mem):Prop:=∃f,p.run slot m=some (x,m',f)
structure NewAt (m:Mem) (id:Nat) (r:Row) (m1:Mem):Prop where
 free:m.H[id]? =none∨m.H[id]? =some .free
 row:∀j,m1.H[j]? =if j=id then some r else m.H[j]?
 fz:m1.Fz=m.Fz
 S:m1.S=m.S
section
variable {slot:Option Nat} {m m':Mem} {x:V}
theorem Res.ret{v:V}(h:Res slot (.ret v) m x m'):x=v∧m'=m:=by
 obtain⟨f,h⟩:=h;simp only[Prog.run,Option.some.injEq,Prod.mk.injEq]at h;exact⟨h.1.symm,h.2.1.symm⟩
theorem Res.fail(h:Res slot .fail m x m'):False:=by obtain⟨f,h⟩:=h;simp[Prog.run]at h
theorem Res.get{id:Nat}{p:Row→Prog}(h:Res slot (.get id p) m x m'):∃r,m.H[id]? =some r∧Res slot (p r) m x m':=by
 obtain⟨f,h⟩:=h;simp only[Prog.run]at h;split at h
 ·obtain⟨f1,h1,_⟩:=qt h;exact⟨_,by assumption,f1,h1⟩
 ·cases h
theorem Res.set{id:Nat}{r:Row}{p:Prog}(h:Res slot (.set id r p) m x m'):id<m.H.length∧Res slot p ⟨m.H.set id r,m.Fz,m.S⟩ x m':=by
 obtain⟨f,h⟩:=h;simp only[Prog.run]at h;split at h
 ·rename_i hb;obtain⟨f1,h1,_⟩:=qt h;exact⟨Nat.le_of_ble_eq_true hb,f1,h1⟩
 ·cases h
theorem Res.isFz{id:Nat}{p:Bool→Prog}(h:Res slot (.isFz id p) m x m'):Res slot (p (m.Fz.testBit id)) m x m':=by
 obtain⟨f,h⟩:=h;simp only[Prog.run]at h;obtain⟨f1,h1,_⟩:=qt h;exact⟨f1,h1⟩
theorem Res.frz{id:Nat}{p:Prog}(h:Res slot (.frz id p) m x m'):Res slot p ⟨m.H,m.Fz|||bit id,m.S⟩ x m':=by
 obtain⟨f,h⟩:=h;simp only[Prog.run]at h;obtain⟨f1,h1,_⟩:=qt h;exact⟨f1,h1⟩
theorem Res.stk{p:xb→Prog}(h:Res slot (.stk p) m x m'):Res slot (p m.S) m x m':=by
 obtain⟨f,h⟩:=h;simp only[Prog.run]at h;obtain⟨f1,h1,_⟩:=qt h;exact⟨f1,h1⟩
theorem Res.setStk{s:xb}{p:Prog}(h:Res slot (.setStk s p) m x m'):Res slot p ⟨m.H,m.Fz,s⟩ x m':=by
 obtain⟨f,h⟩:=h;simp only[Prog.run]at h;obtain⟨f1,h1,_⟩:=qt h;exact⟨f1,h1⟩
theorem Res.base{p:Nat→Prog}(h:Res slot (.base p) m x m'):∃id,(slot=none→id=m.H.length)∧(∀i,slot=some i→id=i)∧Res slot (p id) m x m':=by
 obtain⟨f,h⟩:=h;cases slot with
 |none=>exact⟨_,fun _=>rfl,fun i hi=>(by cases hi),f,h⟩
 |some i=>exact⟨i,fun hi=>(by cases hi),fun j hj=>(by simpa using hj),f,h⟩
theorem Res.new{r:Row}{p:Prog}(h:Res slot (.new r p) m x m'):∃id m1,(slot=none→id=m.H.length∧m1.H=m.H++ [r])∧(∀i,slot=some i→id=i)∧NewAt m id r m1∧Res slot p m1 x m':=by
 obtain⟨f,h⟩:=h;cases slot with
 |none=>
  simp only[Prog.run]at h;refine⟨m.H.length,⟨m.H++ [r],m.Fz,m.S⟩,fun _=>⟨rfl,rfl⟩,fun i hi=>(by cases hi),⟨.inl (by simp),fun j=> ?_,rfl,rfl⟩,f,h⟩;by_cases hj:j=m.H.length
  ·subst hj;simp
  ·rw[if_neg hj]
   by_cases hlt:j<m.H.length
   ·simp[List.getElem?_append_left hlt]
   ·rw[List.getElem?_eq_none (by simp;omega),List.getElem?_eq_none (by omega)]
 |some i=>
  simp only[Prog.run]at h;split at h
  ·rename_i hf
   obtain⟨f1,h1,_⟩:=qt h;refine⟨i,⟨m.H.set i r,m.Fz,m.S⟩,fun hi=>(by cases hi),fun j hj=>(by simpa using hj),⟨.inr hf,fun j=> ?_,rfl,rfl⟩,f1,h1⟩;have hlt:i<m.H.length:=(List.getElem?_eq_some_iff.1 hf).1;by_cases hj:j=i
   ·subst hj;simp[List.getElem?_set,hlt]
   ·rw[if_neg hj,List.getElem?_set_ne (Ne.symm hj)]
  ·cases h
theorem Res.newP{r:Row}{k:Nat→Prog}(h:Res slot (newP r k) m x m'):∃id m1,NewAt m id r m1∧Res slot (k id) m1 x m':=by
 obtain⟨b,h1,h2,h⟩:=h.base;obtain⟨id,m1,h3,h4,hn,h⟩:=h.new
 have:b=id:=by
  cases slot with
  |none=>rw[h1 rfl,(h3 rfl).1]
  |some i=>rw[h2 i rfl,h4 i rfl]
 subst this;exact⟨b,m1,hn,h⟩
theorem Res.toP{o:Option Prog}(h:Res slot (toP o) m x m'):∃p,o=some p∧Res slot p m x m':=by
 cases o with
 |none=>exact h.fail.elim
 |some p=>exact⟨p,rfl,h⟩
theorem Res.optP{β:Type}{o:Option β}{k:β→Prog}(h:Res slot (optP o k) m x m'):∃v,o=some v∧Res slot (k v) m x m':=by
 cases o with
 |none=>exact h.fail.elim
 |some p=>exact⟨p,rfl,h⟩
theorem Res.needP{b:Bool}{p:Prog}(h:Res slot (needP b p) m x m'):b=true∧Res slot p m x m':=by
 cases b with
 |false=>exact h.fail.elim
 |true=>exact⟨rfl,h⟩
end
theorem vn(v:V)(l:List V):flat (v::l)=cellsOf v++flat l:=rfl
theorem zfc(l l':List V):flat (l++l')=flat l++flat l':=by simp[flat]
theorem vx{n:Nat}{l:List V}(h:∀v∈l,zg n v=true):(flat l).length=l.length*n:=by
 induction l with
 |nil=>simp[flat]
 |cons v l ih=>
  rw[vn,List.length_append,(qo (h v (List.mem_cons_self ..))).1,ih fun u hu=>h u (List.mem_cons_of_mem _ hu),List.length_cons,Nat.add_mul];omega
theorem zds{n:Nat}{l:List V}(h:∀v∈l,zg n v=true)(a:Nat):flat (l.take a)=(flat l).take (a*n):=by
 induction l generalizing a with
 |nil=>simp[flat]
 |cons v l ih=>
  cases a with
  |zero=>simp[flat]
  |succ a=>
   have hv:=(qo (h v (List.mem_cons_self ..))).1;rw[List.take_succ_cons,vn,vn,ih (fun u hu=>h u (List.mem_cons_of_mem _ hu)),List.take_append,hv];rw[List.take_of_length_le (l:=cellsOf v) (by rw[hv,Nat.add_mul];omega),show(a+1)*n- n=a*n by rw[Nat.add_mul];omega]
theorem zh2{n:Nat}{l:List V}(h:∀v∈l,zg n v=true)(a:Nat):flat (l.drop a)=(flat l).drop (a*n):=by
 induction l generalizing a with
 |nil=>simp[flat]
 |cons v l ih=>
  cases a with
  |zero=>simp
  |succ a=>
   have hv:=(qo (h v (List.mem_cons_self ..))).1;rw[List.drop_succ_cons,vn,ih (fun u hu=>h u (List.mem_cons_of_mem _ hu)),List.drop_append,hv];rw[List.drop_eq_nil_of_le (as:=cellsOf v) (by rw[hv,Nat.add_mul];omega),List.nil_append,show(a+1)*n- n=a*n by rw[Nat.add_mul];omega]
theorem yml{n:Nat}{l:List V}(h:∀v∈l,zg n v=true){i:Nat}{v:V}(hv:l[i]? =some v)(k:Nat)(hk:k<n):(flat l)[i*n+k]? =(cellsOf v)[k]? :=by
 induction l generalizing i with
 |nil=>simp at hv
 |cons u l ih=>
  have hu:=(qo (h u (List.mem_cons_self ..))).1;rw[vn];cases i with
  |zero=>
   simp only[List.getElem?_cons_zero,Option.some.injEq]at hv;subst hv;rw[List.getElem?_append_left (by omega)];simp
  |succ i=>
   simp only[List.getElem?_cons_succ]at hv;rw[List.getElem?_append_right (by rw[hu,Nat.add_mul];omega),hu,←ih (fun u hu=>h u (List.mem_cons_of_mem _ hu)) hv];congr 1;rw[Nat.add_mul];omega
theorem getElem?_setCells{cs new:List V}{j:Nat}(h:j+new.length≤cs.length)(k:Nat):(xl cs j new)[k]? =if j≤k∧k<j+new.length then new[k- j]? else cs[k]? :=by
 unfold xl;have hj:(cs.take j).length=j:=by rw[List.length_take];omega
 by_cases h1:k<j
 ·rw[List.getElem?_append_left (by omega),List.getElem?_take,if_pos h1,if_neg (by omega)]
 ·rw[List.getElem?_append_right (by omega),hj]
  by_cases h2:k<j+new.length
  ·rw[List.getElem?_append_left (by omega),if_pos (by omega)]
  ·rw[List.getElem?_append_right (by omega),List.getElem?_drop,if_neg (by omega)]
   congr 1;omega
theorem zgj{cs new:List V}{j:Nat}(h:j+new.length≤cs.length):(xl cs j new).length=cs.length:=by
 unfold xl;simp;omega
theorem ynz{n t:Nat}{old v:V}{j:Nat}(ho:zg n old=true)(hv:zg t v=true)(h:j+t≤n)(ht:0<t):cellsOf (vr old v j)=xl (cellsOf old) j (cellsOf v):=by
 have hlo:=(qo ho).1;have hlv:=(qo hv).1;cases old with
 |agg cs=>rfl
 |_=>
  simp only[cellsOf,List.length_singleton]at hlo;subst hlo;have hj:j=0:=by omega
  have ht':t=1:=by omega
  subst hj;subst ht';show cellsOf v=xl [_] 0 (cellsOf v);simp[xl,hlv]
theorem zm0{n t:Nat}{old v:V}{j:Nat}(ho:zg n old=true)(hv:zg t v=true)(h:j+t≤n)(ht:0<t):zg n (vr old v j)=true:=by
 have hlo:=qo ho;have hlv:=qo hv;cases old with
 |agg cs=>
  simp only[vr,zg,Bool.and_eq_true,List.all_eq_true];simp only[cellsOf]at hlo;refine⟨?_,fun u hu=> ?_⟩
  ·rw[zgj (by rw[hlv.1,hlo.1];exact h),hlo.1];simp
  ·unfold xl at hu
   rcases List.mem_append.1 hu with hu|hu
   ·exact hlo.2 u (List.mem_of_mem_take hu)
   ·rcases List.mem_append.1 hu with hu|hu
    ·exact hlv.2 u hu
    ·exact hlo.2 u (List.mem_of_mem_drop hu)
 |_=>
  have hn:=hlo.1;simp only[cellsOf,List.length_singleton]at hn;subst hn;have:t=1:=by omega
  subst this;exact hv
theorem ymi{n:Nat}{l:List V}(h:∀v∈l,zg n v=true){i:Nat}(hi:i<l.length){v:V}(hv:zg n v=true):flat (l.set i v)=xl (flat l) (i*n) (cellsOf v):=by
 have hlv:=(qo hv).1;rw[List.set_eq_take_append_cons_drop,if_pos hi,zfc,vn,zds h,zh2 h];unfold xl;rw[hlv];congr 3;rw[Nat.add_mul];omega
theorem yrl{cs a b:List V}{i j n:Nat}(hi:i+n≤cs.length)(hn:a.length=n)(ha:a=(cs.drop i).take n)(hb:j+b.length≤n):xl cs i (xl a j b)=xl cs (i+j) b:=by
 apply List.ext_getElem?;intro k;have hl:(xl a j b).length=n:=by rw[zgj (by omega),hn]
 rw[getElem?_setCells (cs:=cs) (new:=xl a j b) (by omega),getElem?_setCells (cs:=cs) (new:=b) (by omega),hl];by_cases h1:i≤k∧k<i+n
 ·rw[if_pos h1,getElem?_setCells (by omega)]
  by_cases h2:j≤k- i∧k- i<j+b.length
  ·rw[if_pos h2,if_pos (by omega)];congr 1;omega
  ·rw[if_neg h2,if_neg (by omega),ha,List.getElem?_take,if_pos (by omega),List.getElem?_drop];congr 1;omega
 ·rw[if_neg h1,if_neg (by omega)]
def CellsRel(G:Gh)(us:List V)(c:Array Value)(o:Nat):Prop:=∀(k:Nat) u,us[k]? =some u→∃x,c[o+k]? =some x∧Rel G u x
theorem CellsRel.mono{G G':Gh}(hG:G.le G'){us:List V}{c:Array Value}{o:Nat}(h:CellsRel G us c o):CellsRel G' us c o:=
 fun k u hu=>let⟨x,hx,hr⟩:=h k u hu;⟨x,hx,hr.mono hG⟩
theorem LRel.cells{G:Gh}{us:List V}{xs:List Value}(h:LRel G us xs){c:Array Value}{o:Nat}(hc:∀(k:Nat) x,xs[k]? =some x→c[o+k]? =some x):CellsRel G us c o:=
 fun k u hu=>let⟨x,hx,hr⟩:=h.get hu;⟨x,hc k x hx,hr⟩
theorem CellsRel.list{G:Gh}{us:List V}{c:Array Value}{o:Nat}(h:CellsRel G us c o):LRel G us ((c.toList.drop o).take us.length):=by
 refine⟨?_,fun i v x hv hx=> ?_⟩
 ·rw[List.length_take,List.length_drop]
  apply Nat.min_eq_left;cases hu:us.length with
  |zero=>omega
  |succ n=>
   have hlt:n<us.length:=by omega
   obtain⟨x,hx,_⟩:=h n us[n] (List.getElem?_eq_getElem hlt);have:=(Array.getElem?_eq_some_iff.1 hx).1;simp;omega
 ·obtain⟨y,hy,hr⟩:=h i v hv
  have hlt:i<us.length:=(List.getElem?_eq_some_iff.1 hv).1;rw[List.getElem?_take,if_pos hlt,List.getElem?_drop,Array.getElem?_toList,hy]at hx;simp only[Option.some.injEq]at hx;subst hx;exact hr
def Gh.setR(G:Gh)(id:Nat)(r:RS):Gh:=⟨G.M,fun j=>if j=id then r else G.R j⟩
def Gh.setM(G:Gh)(b:Nat)(c:FC):Gh:=⟨fun k=>if k=b then some c else G.M k,G.R⟩
theorem zph{G:Gh}{id:Nat}{r:RS}(h:G.R id= .fresh):G.le (G.setR id r):=
 ⟨fun b c hc=>hc,fun j hj=>by
  have:j≠id:=fun e=>hj (e▸h);simp only[Gh.setR,if_neg this];exact⟨hj,fun g hg=>hg⟩⟩
theorem yx4(G:Gh)(id:Nat):G.le (G.setR id .dead):=
 ⟨fun b c hc=>hc,fun j hj=>by
  simp only[Gh.setR];by_cases h:j=id
  ·simp[h]
  ·simp only[if_neg h];exact⟨hj,fun g hg=>hg⟩⟩
theorem zpi{G:Gh}{b:Nat}{c:FC}(h:∀c',G.M b=some c'→c'=c):G.le (G.setM b c):=
 ⟨fun k c' hc=>by
  simp only[Gh.setM];by_cases hk:k=b
  ·subst hk;simp[h c' hc]
  ·simp[hk,hc],fun j hj=>⟨hj,fun g hg=>hg⟩⟩
section
variable {T:Tab} {G G':Gh} {w w':World} {H H':zj} {Fz Fz':Nat}
theorem RowRel.keep{id:Nat}{r:Row}(h:RowRel G T w Fz id r)(hle:G.le G')(hR:G'.R id=G.R id)
  (hk:∀g,G.R id= .live g→w'.heap[g.blk]? =w.heap[g.blk]? ∧G'.M g.blk=G.M g.blk)(hF:Fz'.testBit id=Fz.testBit id):RowRel G' T w' Fz' id r:=by
 cases r with
 |free=>obtain⟨h1,h2⟩:=h;exact⟨hR.trans h1,hF.trans h2⟩
 |dead=>intro g hg;exact h g (hR▸hg)
 |cells b fl ty l=>
  obtain⟨g,hg,h1,h2,h3,h4,h5,c,e,hc,hs,hcs,hz1,hz2⟩:=h;obtain⟨k1,k2⟩:=hk g hg;refine⟨g,hR.trans hg,h1,h2,h3,h4,h5,c,e,k1.trans hc,hs,fun k u hu=> ?_,fun hz=> ?_,fun hz=> ?_⟩
  ·obtain⟨x,hx,hr⟩:=hcs k u hu;exact⟨x,hx,hr.mono hle⟩
  ·obtain⟨z1,z2⟩:=hz1 (hF▸hz);exact⟨z1,k2.trans z2⟩
  ·exact k2.trans (hz2 (hF▸hz))
 |map es=>
  obtain⟨g,hg,h1,h2,ents,clock,⟨hc,hbo⟩,hs,hes⟩:=h;obtain⟨k1,k2⟩:=hk g hg;refine⟨g,hR.trans hg,k2.trans h1,hF.trans h2,ents,clock,⟨k1.trans hc,hbo⟩,hs,fun i p e hp he=> ?_⟩;obtain⟨e1,e2,e3,e4⟩:=hes i p e hp he;exact⟨e1.mono hle,e2.mono hle,e3,e4⟩
 |siter s p=>
  obtain⟨g,hg,h1,h2,bs,hc,hs⟩:=h;obtain⟨k1,k2⟩:=hk g hg;exact⟨g,hR.trans hg,k2.trans h1,hF.trans h2,bs,k1.trans hc,hs⟩
 |miter v n q=>
  obtain⟨g,hg,h1,h2,mb,ents,clock,seen,hc,hm,hs,hb,hv,hp,hn⟩:=h;obtain⟨k1,k2⟩:=hk g hg;exact⟨g,hR.trans hg,k2.trans h1,hF.trans h2,mb,ents,clock,seen,k1.trans hc,hle.M _ _ hm,hs,hb,fun e he=>(hv e he).mono hle,hp,hn⟩
theorem HeapRel.live(h:HeapRel G T w H Fz){id:Nat}{g:RG}(hg:G.R id= .live g):∃r,H[id]? =some r∧RowRel G T w Fz id r∧∃o,w.heap[g.blk]? =some o:=by
 cases hr:H[id]? with
 |none=>rw[h.out id hr]at hg;cases hg
 |some r=>
  have hrow:=h.rows id r hr;refine⟨r,rfl,hrow,?_⟩;cases r with
  |free=>rw[hrow.1]at hg;cases hg
  |dead=>exact absurd hg (hrow g)
  |cells b fl ty l=>obtain⟨g',hg',_,_,_,_,_,c,e,hc,_⟩:=hrow;rw[hg]at hg';cases hg';exact⟨_,hc⟩
  |map es=>obtain⟨g',hg',_,_,ents,clock,hc,_⟩:=hrow;rw[hg]at hg';cases hg';exact⟨_,hc.1⟩
  |siter s p=>obtain⟨g',hg',_,_,bs,hc,_⟩:=hrow;rw[hg]at hg';cases hg';exact⟨_,hc⟩
  |miter v n q=>obtain⟨g',hg',_,_,mb,ents,clock,seen,hc,_⟩:=hrow;rw[hg]at hg';cases hg';exact⟨_,hc⟩
theorem HeapRel.lt(h:HeapRel G T w H Fz){b:Nat}(hb:G.owns b):b<w.heap.size:=by
 obtain⟨id,g,hg,rfl⟩:=hb;obtain⟨_,_,_,o,ho⟩:=h.live hg;exact(Array.getElem?_eq_some_iff.1 ho).1
theorem MRel.lt(h:MRel G T w){b:Nat}{c:FC}(hb:G.M b=some c):b<w.heap.size:=by
 obtain⟨_,hc,_⟩:=h.mem b c hb;exact(Array.getElem?_eq_some_iff.1 hc).1
theorem NewAt.fresh{m m1:Mem}{id:Nat}{r:Row}(hn:NewAt m id r m1)(h:HeapRel G T w m.H m.Fz):G.R id= .fresh∧m.Fz.testBit id=false:=by
 rcases hn.free with hf|hf
 ·refine⟨h.out id hf,?_⟩
  cases hz:m.Fz.testBit id with
  |false=>rfl
  |true=>
   have:=h.fz id hz;rw[List.getElem?_eq_getElem this]at hf;cases hf
 ·exact h.rows id _ hf
theorem HeapRel.upd(h:HeapRel G T w H Fz)(hle:G.le G')
  (hrow:∀id r,H'[id]? =some r→(H[id]? =some r∧G'.R id=G.R id∧Fz'.testBit id=Fz.testBit id∧∀g,G.R id= .live g→w'.heap[g.blk]? =w.heap[g.blk]? ∧G'.M g.blk=G.M g.blk)∨RowRel G' T w' Fz' id r)
  (hout:∀id,H'[id]? =none→G'.R id= .fresh)(hfz:∀id,Fz'.testBit id=true→id<H'.length)
  (hinj:∀id id' g g',G'.R id= .live g→G'.R id'= .live g'→g.blk=g'.blk→id=id'):HeapRel G' T w' H' Fz' where
 rows id r hr:=by
  rcases hrow id r hr with⟨h1,h2,h3,h4⟩|h1
  ·exact(h.rows id r h1).keep hle h2 h4 h3
  ·exact h1
 out:=hout
 fz:=hfz
 inj:=hinj
theorem zhq{m m1:Mem}{id:Nat}{r:Row}{o:Obj}{g:RG}(hn:NewAt m id r m1)(h:HeapRel G T w m.H m.Fz)(hM:MRel G T w)(hw:w'.heap=w.heap.push o)(hg:g.blk=w.heap.size)
  (hr:G.le (G.setR id (.live g))→G.M g.blk=none→m.Fz.testBit id=false→RowRel (G.setR id (.live g)) T w' m.Fz id r)(hO:Oo w w':=by exact⟨rfl,rfl⟩):
  Step G w (G.setR id (.live g)) w'∧HeapRel (G.setR id (.live g)) T w' m1.H m1.Fz∧MRel (G.setR id (.live g)) T w'∧(G.setR id (.live g)).R id= .live g:=by
 obtain⟨hfr,hz⟩:=hn.fresh h;have hle:G.le (G.setR id (.live g)):=zph hfr
 have hMn:G.M g.blk=none:=by
  cases hb:G.M g.blk with
  |none=>rfl
  |some c=>have:=hM.lt hb;omega
 have hold:∀b,b<w.heap.size→w'.heap[b]? =w.heap[b]? :=fun b hb=>by rw[hw,Array.getElem?_push,if_neg (by omega)]
 have hR:∀j,j≠id→(G.setR id (.live g)).R j=G.R j:=fun j hj=>by simp[Gh.setR,hj]
 have hRi:(G.setR id (.live g)).R id= .live g:=by simp[Gh.setR]
 refine⟨⟨hle,by rw[hw];simp,fun b hb=> ?_,fun b c hc=> .inl hc,fun b hb _=>hold b hb,hO⟩,?_,⟨fun b c hc=> ?_,fun gl cs hcs=> ?_⟩,hRi⟩
 ·obtain⟨j,g',hj,rfl⟩:=hb
  by_cases hji:j=id
  ·subst hji;rw[hRi]at hj;cases hj;exact .inr (by omega)
  ·rw[hR j hji]at hj;exact .inl ⟨j,g',hj,rfl⟩
 ·refine h.upd hle (fun j r' hj=> ?_) (fun j hj=> ?_) (fun j hj=> ?_) (fun j j' a a' ha ha' hab=> ?_)
  ·rw[hn.row]at hj
   by_cases hji:j=id
   ·subst hji
    simp only[if_true,Option.some.injEq]at hj;subst hj;rw[hn.fz];exact .inr (hr hle hMn hz)
   ·rw[if_neg hji]at hj
    exact .inl ⟨hj,hR j hji,by rw[hn.fz],fun a ha=>⟨hold _ (h.lt ⟨j,a,ha,rfl⟩),rfl⟩⟩
  ·rw[hn.row]at hj
   by_cases hji:j=id
   ·simp[hji]at hj
   ·rw[if_neg hji]at hj;rw[hR j hji];exact h.out j hj
  ·rw[hn.fz]at hj
   have h1:=h.fz j hj;have h2:=hn.row j;by_cases hji:j=id
   ·subst hji;rw[hz]at hj;cases hj
   ·rw[if_neg hji,List.getElem?_eq_getElem h1]at h2
    exact(List.getElem?_eq_some_iff.1 h2).1
  ·by_cases hji:j=id
   ·subst hji
    rw[hRi]at ha;cases ha;by_cases hji':j'=j
    ·exact hji'.symm
    ·rw[hR j' hji']at ha'
     have:=h.lt ⟨j',a',ha',rfl⟩;omega
   ·rw[hR j hji]at ha
    by_cases hji':j'=id
    ·subst hji'
     rw[hRi]at ha';cases ha';have:=h.lt ⟨j,a,ha,rfl⟩;omega
    ·rw[hR j' hji']at ha'
     exact h.inj j j' a a' ha ha' hab
 ·obtain⟨o',hc',hob⟩:=hM.mem b c hc
  exact⟨o',(hold b (hM.lt hc)).trans hc',hob⟩
 ·obtain⟨c,h1,h2,h3,h4⟩:=hM.glob gl cs hcs
  exact⟨c,h1,h2.mono hle,h3,h4⟩
theorem heap_set{m:Mem}{id:Nat}{r r0:Row}{g:RG}(h:HeapRel G T w m.H m.Fz)(hM:MRel G T w)(hr0:m.H[id]? =some r0)(hg:G.R id= .live g)(hMn:G.M g.blk=none)
  (hw:∀b,b≠g.blk→w'.heap[b]? =w.heap[b]?)(hs:w'.heap.size=w.heap.size)(hr:RowRel G T w' m.Fz id r)(hO:Oo w w':=by exact⟨rfl,rfl⟩):
  Step G w G w'∧HeapRel G T w' (m.H.set id r) m.Fz∧MRel G T w':=by
 have hlt:id<m.H.length:=(List.getElem?_eq_some_iff.1 hr0).1;refine⟨⟨.refl G,Nat.le_of_eq hs.symm,fun b hb=> .inl hb,fun b c hc=> .inl hc,fun b hb hn=>hw b fun e=>hn ⟨id,g,hg,e.symm⟩,hO⟩,?_,⟨fun b c hc=> ?_,hM.glob⟩⟩
 ·refine h.upd (.refl G) (fun j r' hj=> ?_) (fun j hj=> ?_) (fun j hj=>by simpa using h.fz j hj) h.inj
  ·by_cases hji:id=j
   ·subst hji
    simp only[List.getElem?_set,if_true,hlt,Option.some.injEq]at hj;subst hj;exact .inr hr
   ·rw[List.getElem?_set_ne hji]at hj
    exact .inl ⟨hj,rfl,rfl,fun a ha=>⟨hw _ fun e=>hji (h.inj _ _ _ _ hg ha e.symm),rfl⟩⟩
  ·by_cases hji:id=j
   ·subst hji;simp[List.getElem?_set,hlt]at hj
   ·rw[List.getElem?_set_ne hji]at hj;exact h.out j hj
 ·obtain⟨o',hc',hob⟩:=hM.mem b c hc
  exact⟨o',(hw b fun e=>by rw[e,hMn]at hc;cases hc).trans hc',hob⟩
theorem yly{m m1:Mem}{id id':Nat}{r r0:Row}{g g':RG}(h:HeapRel G T w m.H m.Fz)(hM:MRel G T w)(hr0:m.H[id]? =some r0)(hg:G.R id= .live g)(hMn:G.M g.blk=none)
  (hn:NewAt ⟨m.H.set id .dead,m.Fz,m.S⟩ id' r m1)(hb:g'.blk=g.blk∨g'.blk=w.heap.size)(hw:∀b,b<w.heap.size→b≠g.blk→w'.heap[b]? =w.heap[b]?)(hs:w.heap.size≤w'.heap.size)
  (hr:G.le ((G.setR id .dead).setR id' (.live g'))→G.M g'.blk=none→m.Fz.testBit id'=false→RowRel ((G.setR id .dead).setR id' (.live g')) T w' m.Fz id' r)(hO:Oo w w':=by exact⟨rfl,rfl⟩):
  Step G w ((G.setR id .dead).setR id' (.live g')) w'∧HeapRel ((G.setR id .dead).setR id' (.live g')) T w' m1.H m1.Fz∧MRel ((G.setR id .dead).setR id' (.live g')) T w'∧
   ((G.setR id .dead).setR id' (.live g')).R id'= .live g':=by
 have hlt:id<m.H.length:=(List.getElem?_eq_some_iff.1 hr0).1
 have hne:id'≠id:=by
  rintro rfl;rcases hn.free with hf|hf<;>simp[List.getElem?_set,hlt]at hf
 have hfree:m.H[id']? =none∨m.H[id']? =some .free:=by
  rcases hn.free with hf|hf
  ·exact .inl (by simpa[List.getElem?_set_ne (Ne.symm hne)]using hf)
  ·exact .inr (by simpa[List.getElem?_set_ne (Ne.symm hne)]using hf)
 have hfr:G.R id'= .fresh∧m.Fz.testBit id'=false:=by
  rcases hfree with hf|hf
  ·refine⟨h.out id' hf,?_⟩
   cases hz:m.Fz.testBit id' with
   |false=>rfl
   |true=>have:=h.fz id' hz;rw[List.getElem?_eq_getElem this]at hf;cases hf
  ·exact h.rows id' _ hf
 have hle:G.le ((G.setR id .dead).setR id' (.live g')):=(yx4 G id).trans (zph (by simp[Gh.setR,hne,hfr.1]))
 have hMn':G.M g'.blk=none:=by
  rcases hb with hb|hb
  ·rw[hb];exact hMn
  ·cases hx:G.M g'.blk with
   |none=>rfl
   |some c=>have:=hM.lt hx;omega
 have hR:∀j,j≠id→j≠id'→((G.setR id .dead).setR id' (.live g')).R j=G.R j:=fun j h1 h2=>by simp[Gh.setR,h1,h2]
 have hRi:((G.setR id .dead).setR id' (.live g')).R id'= .live g':=by simp[Gh.setR]
 have hRd:((G.setR id .dead).setR id' (.live g')).R id= .dead:=by simp[Gh.setR,Ne.symm hne]
 have hrow:=fun j=>hn.row j;have hblk:∀j a,G.R j= .live a→j≠id→a.blk≠g.blk:=fun j a ha hj e=>hj (h.inj _ _ _ _ ha hg e);refine⟨⟨hle,hs,fun b hb'=> ?_,fun b c hc=> .inl hc,fun b hb' hno=>hw b hb' fun e=>hno ⟨id,g,hg,e.symm⟩,hO⟩,?_,⟨fun b c hc=> ?_,fun gl cs hcs=> ?_⟩,hRi⟩
 ·obtain⟨j,a,ha,rfl⟩:=hb'
  by_cases h1:j=id'
  ·subst h1
   rw[hRi]at ha;cases ha;rcases hb with hb|hb
   ·exact .inl ⟨id,g,hg,hb.symm⟩
   ·exact .inr (by omega)
  ·by_cases h2:j=id
   ·subst h2;rw[hRd]at ha;cases ha
   ·rw[hR j h2 h1]at ha;exact .inl ⟨j,a,ha,rfl⟩
 ·refine h.upd hle (fun j r' hj=> ?_) (fun j hj=> ?_) (fun j hj=> ?_) (fun j j' a a' ha ha' hab=> ?_)
  ·rw[hrow]at hj
   by_cases h1:j=id'
   ·subst h1
    simp only[if_true,Option.some.injEq]at hj;subst hj;rw[hn.fz];exact .inr (hr hle hMn' hfr.2)
   ·rw[if_neg h1]at hj
    by_cases h2:id=j
    ·subst h2
     simp only[List.getElem?_set,if_true,hlt,Option.some.injEq]at hj;subst hj;refine .inr fun a ha=> ?_;rw[hRd]at ha;cases ha
    ·simp only[List.getElem?_set_ne h2]at hj
     exact .inl ⟨hj,hR j (Ne.symm h2) h1,by rw[hn.fz],fun a ha=>⟨hw _ (h.lt ⟨j,a,ha,rfl⟩) (hblk j a ha (Ne.symm h2)),rfl⟩⟩
  ·rw[hrow]at hj
   by_cases h1:j=id'
   ·simp[h1]at hj
   ·rw[if_neg h1]at hj
    by_cases h2:id=j
    ·subst h2;simp[List.getElem?_set,hlt]at hj
    ·simp only[List.getElem?_set_ne h2]at hj
     rw[hR j (Ne.symm h2) h1];exact h.out j hj
  ·rw[hn.fz]at hj
   have h1:=h.fz j hj;by_cases h2:j=id'
   ·subst h2;simp only at hj;rw[hfr.2]at hj;cases hj
   ·have h3:=hrow j
    rw[if_neg h2,List.getElem?_eq_getElem (show j<(m.H.set id .dead).length by simpa using h1)]at h3;exact(List.getElem?_eq_some_iff.1 h3).1
  ·have hcase:∀j a,((G.setR id .dead).setR id' (.live g')).R j= .live a→(j=id'∧a=g')∨(j≠id'∧j≠id∧G.R j= .live a):=by
    intro j a ha;by_cases h1:j=id'
    ·subst h1;rw[hRi]at ha;cases ha;exact .inl ⟨rfl,rfl⟩
    ·by_cases h2:j=id
     ·subst h2;rw[hRd]at ha;cases ha
     ·rw[hR j h2 h1]at ha;exact .inr ⟨h1,h2,ha⟩
   have hcross:∀j a,j≠id→G.R j= .live a→a.blk≠g'.blk:=by
    intro j a hj ha e;rcases hb with hb|hb
    ·exact hblk j a ha hj (e.trans hb)
    ·have:=h.lt ⟨j,a,ha,rfl⟩;omega
   rcases hcase j a ha with⟨rfl,rfl⟩|⟨_,h2,h3⟩
   ·rcases hcase j' a' ha' with⟨rfl,rfl⟩|⟨_,h2',h3'⟩
    ·rfl
    ·exact absurd hab.symm (hcross j' a' h2' h3')
   ·rcases hcase j' a' ha' with⟨rfl,rfl⟩|⟨_,h2',h3'⟩
    ·exact absurd hab (hcross j a h2 h3)
    ·exact h.inj _ _ _ _ h3 h3' hab
 ·obtain⟨o',hc',hob⟩:=hM.mem b c hc
  exact⟨o',(hw b (hM.lt hc) fun e=>by rw[e]at hc;simp only[Gh.setR]at hc;rw[hMn]at hc;cases hc).trans hc',hob⟩
 ·obtain⟨c,h1,h2,h3,h4⟩:=hM.glob gl cs hcs
  exact⟨c,h1,h2.mono hle,h3,h4⟩
theorem yy3{m:Mem}{id:Nat}{r r0:Row}(h:HeapRel G T w m.H m.Fz)(hr0:m.H[id]? =some r0)(hr:RowRel G T w m.Fz id r):HeapRel G T w (m.H.set id r) m.Fz:=by
 have hlt:id<m.H.length:=(List.getElem?_eq_some_iff.1 hr0).1;refine h.upd (.refl G) (fun j r' hj=> ?_) (fun j hj=> ?_) (fun j hj=>by simpa using h.fz j hj) h.inj
 ·by_cases hji:id=j
  ·subst hji
   simp only[List.getElem?_set,if_true,hlt,Option.some.injEq]at hj;subst hj;exact .inr hr
  ·rw[List.getElem?_set_ne hji]at hj
   exact .inl ⟨hj,rfl,rfl,fun a ha=>⟨rfl,rfl⟩⟩
 ·by_cases hji:id=j
  ·subst hji;simp[List.getElem?_set,hlt]at hj
  ·rw[List.getElem?_set_ne hji]at hj;exact h.out j hj
theorem yl0{m:Mem}{id:Nat}{b:Bool}{ty:TypeId}{l:List V}{g:RG}{c:Array Value}{e:TypeId}(h:HeapRel G T w m.H m.Fz)(hM:MRel G T w)(hr0:m.H[id]? =some (.cells b true ty l))(hg:G.R id= .live g)
  (hc:w.heap[g.blk]? =some (.cells c e (0,0))):
  Step G w (G.setM g.blk (.cells c)) w∧HeapRel (G.setM g.blk (.cells c)) T w m.H (m.Fz|||bit id)∧MRel (G.setM g.blk (.cells c)) T w∧(G.setM g.blk (.cells c)).M g.blk=some (.cells c):=by
 have hlt:id<m.H.length:=(List.getElem?_eq_some_iff.1 hr0).1;have hrow:=h.rows id _ hr0;obtain⟨g',hg',h1,h2,h3,h4,h5,c',e',hc',hs,hcs,hz1,hz2⟩:=hrow;rw[hg]at hg';cases hg';rw[hc]at hc';simp only[Option.some.injEq,Obj.cells.injEq]at hc';obtain⟨rfl,rfl,_⟩:=hc'
 have hMo:∀c',G.M g.blk=some c'→c'= .cells c:=by
  intro c' hc';cases hz:m.Fz.testBit id with
  |true=>have:=(hz1 hz).2;rw[this]at hc';exact(Option.some.inj hc').symm
  |false=>rw[hz2 hz]at hc';cases hc'
 have hle:G.le (G.setM g.blk (.cells c)):=zpi hMo;have hMi:(G.setM g.blk (.cells c)).M g.blk=some (.cells c):=by simp[Gh.setM]
 have hbit:∀j,(m.Fz|||bit id).testBit j=(m.Fz.testBit j||decide (id=j)):=fun j=>by rw[Nat.testBit_or,vh]
 refine⟨⟨hle,Nat.le_refl _,fun b hb=> .inl hb,fun k c' hk=> ?_,fun _ _ _=>rfl,.refl _⟩,?_,⟨fun k c' hk=> ?_,fun gl cs hcs'=> ?_⟩,hMi⟩
 ·simp only[Gh.setM]at hk
  by_cases hkb:k=g.blk
  ·exact .inr (.inl ⟨id,g,hg,hkb.symm⟩)
  ·rw[if_neg hkb]at hk;exact .inl hk
 ·refine h.upd hle (fun j r' hj=> ?_) h.out (fun j hj=> ?_) h.inj
  ·by_cases hji:id=j
   ·subst hji
    rw[hr0]at hj;simp only[Option.some.injEq]at hj;subst hj;refine .inr ⟨g,hg,h1,h2,h3,h4,h5,c,e,hc,hs,fun k u hu=> ?_,fun _=>⟨rfl,hMi⟩,fun hz=>by rw[hbit]at hz;simp at hz⟩;obtain⟨x,hx,hr⟩:=hcs k u hu;exact⟨x,hx,hr.mono hle⟩
   ·refine .inl ⟨hj,rfl,by rw[hbit];simp[hji],fun a ha=>⟨rfl,?_⟩⟩
    simp only[Gh.setM];rw[if_neg fun e=>hji (h.inj _ _ _ _ hg ha e.symm)]
  ·rw[hbit]at hj
   simp only[Bool.or_eq_true,decide_eq_true_eq]at hj;rcases hj with hj|hj
   ·exact h.fz j hj
   ·rw[←hj];exact hlt
 ·simp only[Gh.setM]at hk
  by_cases hkb:k=g.blk
  ·rw[if_pos hkb]at hk;cases hk;rw[hkb];exact⟨_,hc,⟨e,(0,0),rfl⟩⟩
  ·rw[if_neg hkb]at hk;exact hM.mem k c' hk
 ·obtain⟨c',x1,x2,x3,x4⟩:=hM.glob gl cs hcs'
  exact⟨c',hle.M _ _ x1,x2.mono hle,x3,x4⟩
theorem yy6{m:Mem}{id:Nat}{es:List (V×V)}{g:RG}{ents:Array MapEntry}{clock:Nat}(h:HeapRel G T w m.H m.Fz)(hM:MRel G T w)(hr0:m.H[id]? =some (.map es))(hg:G.R id= .live g)
  (hc:w.heap[g.blk]? =some (.map ents clock))(hMn:G.M g.blk=none):
  Step G w ((G.setM g.blk (FC.map ents clock)).setR id .dead) w∧HeapRel ((G.setM g.blk (FC.map ents clock)).setR id .dead) T w (m.H.set id .dead) m.Fz∧MRel ((G.setM g.blk (FC.map ents clock)).setR id .dead) T w:=by
 have hlt:id<m.H.length:=(List.getElem?_eq_some_iff.1 hr0).1;have hMo:∀c',G.M g.blk=some c'→c'=FC.map ents clock:=fun c' hc'=>by rw[hMn]at hc';cases hc'
 have hle:G.le ((G.setM g.blk (FC.map ents clock)).setR id .dead):=by
  refine⟨(zpi hMo).M,fun j hj=> ?_⟩;simp only[Gh.setR,Gh.setM];by_cases hji:j=id
  ·rw[if_pos hji];exact⟨by simp,fun g' hg'=>by cases hg'⟩
  ·rw[if_neg hji];exact⟨hj,fun g' hg'=>hg'⟩
 have hR:∀j,j≠id→((G.setM g.blk (FC.map ents clock)).setR id .dead).R j=G.R j:=fun j hj=>by simp[Gh.setR,Gh.setM,hj]
 have hRi:((G.setM g.blk (FC.map ents clock)).setR id .dead).R id= .dead:=by simp[Gh.setR]
 have hlv:∀j a,((G.setM g.blk (FC.map ents clock)).setR id .dead).R j= .live a→j≠id∧G.R j= .live a:=fun j a ha=>by
  by_cases hji:j=id
  ·subst hji;rw[hRi]at ha;cases ha
  ·exact⟨hji,(hR j hji).symm.trans ha⟩
 refine⟨⟨hle,Nat.le_refl _,fun b hb=> ?_,fun k c' hk=> ?_,fun _ _ _=>rfl,.refl _⟩,?_,⟨fun k c' hk=> ?_,fun gl cs hcs'=> ?_⟩⟩
 ·obtain⟨j,a,ha,rfl⟩:=hb
  exact .inl ⟨j,a,(hlv j a ha).2,rfl⟩
 ·simp only[Gh.setR,Gh.setM]at hk
  by_cases hkb:k=g.blk
  ·exact .inr (.inl ⟨id,g,hg,hkb.symm⟩)
  ·rw[if_neg hkb]at hk;exact .inl hk
 ·refine h.upd hle (fun j r' hj=> ?_) (fun j hj=> ?_) (fun j hj=> ?_) (fun j j' a a' ha ha' hab=> ?_)
  ·by_cases hji:id=j
   ·subst hji
    rw[List.getElem?_set_self hlt]at hj;simp only[Option.some.injEq]at hj;subst hj;exact .inr fun g' hg'=>by rw[hRi]at hg';cases hg'
   ·rw[List.getElem?_set_ne hji]at hj
    refine .inl ⟨hj,hR j (Ne.symm hji),rfl,fun a ha=>⟨rfl,?_⟩⟩;simp only[Gh.setR,Gh.setM];rw[if_neg fun e=>hji (h.inj _ _ _ _ hg ha e.symm)]
  ·by_cases hji:id=j
   ·subst hji;simp[List.getElem?_set,hlt]at hj
   ·rw[List.getElem?_set_ne hji]at hj;rw[hR j (Ne.symm hji)];exact h.out j hj
  ·rw[List.length_set];exact h.fz j hj
  ·exact h.inj _ _ _ _ (hlv j a ha).2 (hlv j' a' ha').2 hab
 ·simp only[Gh.setR,Gh.setM]at hk
  by_cases hkb:k=g.blk
  ·rw[if_pos hkb]at hk;cases hk;rw[hkb];exact⟨_,hc,rfl⟩
  ·rw[if_neg hkb]at hk;exact hM.mem k c' hk
 ·obtain⟨c',x1,x2,x3,x4⟩:=hM.glob gl cs hcs'
  exact⟨c',hle.M _ _ x1,x2.mono hle,x3,x4⟩
theorem ObjC.cells{o:Obj}{f:FC}(h:ObjC o f){k:Nat}{x:Value}(hk:f.rd k=some x):∃c e fr,f= .cells c∧o= .cells c e fr∧c[k]? =some x:=by
 cases f with
 |cells c=>obtain⟨e,fr,rfl⟩:=h;exact⟨c,e,fr,rfl,rfl,hk⟩
 |map es n=>cases hk
end
end Go.Den
