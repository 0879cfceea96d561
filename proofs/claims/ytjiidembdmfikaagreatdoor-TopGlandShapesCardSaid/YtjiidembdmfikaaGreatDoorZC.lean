import Derived.Test.YtjiidembdmfikaaGreatDoorZB
import Derived.Laws.StructEq
set_option linter.all false
set_option maxHeartbeats 8000000
set_option maxRecDepth 100000
namespace Go.Den
open Go
def qz:TypeDesc→TD
 | .bool=> .bool| .int k=> .int k| .float k=> .float k| .complex k=> .complex k| .string=> .string
 | .slice e=> .slice e| .array n e=> .array n e| .map k e=> .map k e| .struct fs=> .struct (fs.toList.map fun f=>(f.offset,f.type))| .pointer e=> .ptr e
 | .func _ _ _=> .func| .interface _=> .iface| .tuple ts=> .tuple ts.toList|_=> .other
def TD.subs:TD→List TypeId
 | .slice e=> [e]| .array _ e=> [e]| .map k e=> [k,e]| .struct fs=>fs.map (·.2)| .ptr e=> [e]| .tuple ts=>ts|_=> []
structure TiOk (P:Program) (T:Tab) (t:TypeId) (i:TI):Prop where
 sub:∀u∈i.td.subs,∃j,T.ti u=some j
 ex:∃inf d z,P.info? t=some inf∧P.underlying t=some d∧i.td=qz d∧inf.size=i.size∧inf.bytes=i.bytes∧inf.zero=some z∧i.zero=q7 z
 eq:i.eqok=true→P.stoodInHeld t=false∧P.eqGuardType P.depth t=false∧∀fs,P.underlying t=some (.struct fs)→∀f∈fs,f.name≠ "_"
structure TabOk (P:Program) (T:Tab):Prop where
 ti:∀t i,T.ti t=some i→TiOk P T t i
 fn:∀f fn,T.fn f=some fn→P.funcs[f]? =some fn
theorem zoy(G:Gh)(x:Value):Rel G (za3 x) x:=by
 unfold za3;split
 ·exact .bool _
 ·exact .int _ _
 ·exact .flt _ _
 ·exact .cpl _ _ _
 ·exact .str _ _ rfl
 ·exact .nilp
 ·exact .nils _
 ·exact .nilm
 ·exact .nilf
 ·exact .nili
 ·exact .fn _ _ _ rfl (fun i v x hv=>by simp at hv)
 ·exact .undef _
theorem zf7(G:Gh)(x:Value):Rel G (q7 x) x:=by
 unfold q7;split
 ·refine .agg _ _ (by simp) (fun i v x hv hx=> ?_)
  rw[List.getElem?_map]at hv;rw[Array.getElem?_toList]at hv;rw[hx]at hv;simp only[Option.map_some,Option.some.injEq]at hv;subst hv;exact zoy G x
 ·exact zoy G _
theorem lookup_cons{α:Type}(t u:Nat)(v:α)(r:List (Nat×α)):lookup t ((u,v)::r)=if u=t then some v else lookup t r:=by
 simp only[lookup];cases h:Nat.beq u t with
 |true=>simp[Nat.eq_of_beq_eq_true h]
 |false=>rw[if_neg (Nat.ne_of_beq_eq_false h)]
section
variable {α:Type} {T:Tab}
theorem xf{b:Bool}{k:Option α}{r:α}(h:need b k=some r):b=true∧k=some r:=by
 cases b<;>simp[need]at h;exact⟨rfl,h⟩
theorem zas{β:Type}{o:Option β}{k:β→Option α}{r:α}(h:zn o k=some r):∃v,o=some v∧k v=some r:=by
 cases o<;>simp[zn]at h;exact⟨_,rfl,h⟩
theorem zos{v:V}{k:Bool→Option α}{r:α}(h:asBool v k=some r):∃b,v= .bool b∧k b=some r:=by
 cases v<;>simp[asBool]at h;exact⟨_,rfl,h⟩
theorem zd7{v:V}{k:IntKind→Int→Option α}{r:α}(h:asInt v k=some r):∃i n,v= .int i n∧k i n=some r:=by
 cases v<;>simp[asInt]at h;exact⟨_,_,rfl,h⟩
theorem zjz{kd:IntKind}{v:V}{k:Int→Option α}{r:α}(h:ug kd v k=some r):∃n,v= .int kd n∧k n=some r:=by
 cases v<;>simp[ug]at h;split at h
 ·rename_i hd;simp at hd;subst hd;exact⟨_,rfl,h⟩
 ·cases h
theorem xiq{kd:FloatKind}{v:V}{k:Nat→Option α}{r:α}(h:zj0 kd v k=some r):∃n,v= .flt kd n∧k n=some r:=by
 cases v<;>simp[zj0]at h;split at h
 ·rename_i hd;simp at hd;subst hd;exact⟨_,rfl,h⟩
 ·cases h
theorem xip{v:V}{k:List UInt8→Option α}{r:α}(h:zd6 v k=some r):∃b,v= .str b∧k b=some r:=by
 cases v<;>simp[zd6]at h;exact⟨_,rfl,h⟩
theorem zbr{v:V}{k:List V→Option α}{r:α}(h:asAgg v k=some r):∃b,v= .agg b∧k b=some r:=by
 cases v<;>simp[asAgg]at h;exact⟨_,rfl,h⟩
theorem zor{v:V}{k:List V→Option α}{r:α}(h:zaj v k=some r):∃b,v= .tup b∧k b=some r:=by
 cases v<;>simp[zaj]at h;exact⟨_,rfl,h⟩
theorem jb{l:List V}{i:Nat}{k:V→Option α}{r:α}(h:get l i k=some r):∃v,l[i]? =some v∧k v=some r:=by
 unfold get at h;split at h
 ·exact⟨_,by assumption,h⟩
 ·cases h
def Same(v v':V):Prop:=∀G x,Rel G v x→Rel G v' x
theorem Same.refl(v:V):Same v v:=fun _ _ h=>h
theorem Rel.list{G:Gh}{cs:List V}{a:Array Value}(hs:a.size=cs.length)(h:∀(i:Nat) v x,cs[i]? =some v→a[i]? =some x→Rel G v x)(i:Nat)(v:V)(x:Value)
  (hv:cs[i]? =some v)(hx:a.toList[i]? =some x):Rel G v x:=h i v x hv (by simpa using hx)
def LRel(G:Gh)(l:List V)(xs:List Value):Prop:=xs.length=l.length∧∀(i:Nat) v x,l[i]? =some v→xs[i]? =some x→Rel G v x
theorem q9{G:Gh}{l:List V}{a:Array Value}:RelL G l a↔LRel G l a.toList:=by
 unfold RelL LRel;simp
theorem Rel.agg'{G:Gh}{cs:List V}{x:Value}(h:Rel G (.agg cs) x):∃a,x= .agg a∧LRel G cs a.toList:=by
 cases h with|agg _ a hs h=>exact⟨a,rfl,q9.1 ⟨hs,h⟩⟩
theorem Rel.tup'{G:Gh}{cs:List V}{x:Value}(h:Rel G (.tup cs) x):∃a,x= .tuple a∧LRel G cs a.toList:=by
 cases h with|tup _ a hs h=>exact⟨a,rfl,q9.1 ⟨hs,h⟩⟩
theorem LRel.toAgg{G:Gh}{cs:List V}{a:Array Value}(h:LRel G cs a.toList):Rel G (.agg cs) (.agg a):=by
 have:=q9.2 h;exact .agg _ _ this.1 this.2
theorem LRel.toTup{G:Gh}{cs:List V}{a:Array Value}(h:LRel G cs a.toList):Rel G (.tup cs) (.tuple a):=by
 have:=q9.2 h;exact .tup _ _ this.1 this.2
theorem LRel.nil(G:Gh):LRel G [] []:=⟨rfl,fun i v x h=>by simp at h⟩
theorem LRel.take{G:Gh}{l:List V}{xs:List Value}(h:LRel G l xs)(n:Nat):LRel G (l.take n) (xs.take n):=
 ⟨by simp[h.1],fun i v x hv hx=>by
  rw[List.getElem?_take]at hv hx;split at hv
  ·rename_i hi;rw[if_pos hi]at hx;exact h.2 i v x hv hx
  ·cases hv⟩
theorem LRel.drop{G:Gh}{l:List V}{xs:List Value}(h:LRel G l xs)(n:Nat):LRel G (l.drop n) (xs.drop n):=
 ⟨by simp[h.1],fun i v x hv hx=>by
  rw[List.getElem?_drop]at hv hx;exact h.2 _ v x hv hx⟩
theorem LRel.append{G:Gh}{l l':List V}{xs xs':List Value}(h:LRel G l xs)(h':LRel G l' xs'):LRel G (l++l') (xs++xs'):=
 ⟨by simp[h.1,h'.1],fun i v x hv hx=>by
  by_cases hi:i<l.length
  ·rw[List.getElem?_append_left hi]at hv
   rw[List.getElem?_append_left (by rw[h.1];exact hi)]at hx;exact h.2 i v x hv hx
  ·rw[List.getElem?_append_right (by omega)]at hv
   rw[List.getElem?_append_right (by rw[h.1];omega),h.1]at hx;exact h'.2 _ v x hv hx⟩
theorem LRel.one{G:Gh}{v:V}{x:Value}(h:Rel G v x):LRel G [v] [x]:=
 ⟨rfl,fun i v' x' hv hx=>by
  cases i with
  |zero=>simp at hv hx;subst hv;subst hx;exact h
  |succ i=>simp at hv⟩
theorem LRel.get{G:Gh}{l:List V}{xs:List Value}(h:LRel G l xs){i:Nat}{v:V}(hv:l[i]? =some v):∃x,xs[i]? =some x∧Rel G v x:=by
 have hi:i<l.length:=(List.getElem?_eq_some_iff.1 hv).1;have hx:xs[i]? =some (xs[i]'(by rw[h.1];exact hi)):=List.getElem?_eq_getElem _;exact⟨_,hx,h.2 i v _ hv hx⟩
theorem LRel.mono{G G':Gh}(hG:G.le G'){l:List V}{xs:List Value}(h:LRel G l xs):LRel G' l xs:=⟨h.1,fun i v x hv hx=>(h.2 i v x hv hx).mono hG⟩
theorem wm:∀(n:Nat) (t:TypeId) (v:V) (k:V→Option α) (r:α),shape T n t v k=some r→
  ∃v',k v'=some r∧Same v v':=by
 intro n
 induction n with
 |zero=>intro t v k r h;simp[shape]at h
 |succ n ih=>
    -- the parts of a struct, of an array, of a tuple
  have fields:∀(fs:List (Nat×TypeId)) (cs acc:List V) (k:List V→Option α) (r:α),shFields T (shape T n) fs cs acc k=some r→
    ∃l,k (acc++l)=some r∧∀G xs,LRel G cs xs→LRel G l (xs.take l.length):=by
   intro fs
   induction fs with
   |nil=>intro cs acc k r h;exact⟨[],by simpa[shFields]using h,fun G xs _=>by simpa using LRel.nil G⟩
   |cons f fs ihf=>
    obtain⟨o,t⟩:=f;intro cs acc k r h;simp only[shFields]at h;split at h
    ·obtain⟨w,hw,hs⟩:=ih _ _ _ _ h
     obtain⟨ws,rfl,hw⟩:=zbr hw;obtain⟨l,hl,hr⟩:=ihf _ _ _ _ hw;refine⟨ws++l,by rw[←List.append_assoc];exact hl,fun G xs hx=> ?_⟩;obtain⟨a,ha,hA⟩:=(hs G (.agg (xs.take (T.size t)).toArray) ((hx.take _).toAgg (a:=(xs.take (T.size t)).toArray))).agg';simp only[Value.agg.injEq]at ha;subst ha;simp only at hA;have h2:=hr G _ (hx.drop (T.size t));have hlen:(xs.take (T.size t)).length=ws.length:=hA.1
     have e:xs.take (ws++l).length=xs.take (T.size t)++(xs.drop (T.size t)).take l.length:=by
      by_cases hz:T.size t≤xs.length
      ·have:ws.length=T.size t:=by rw[←hlen,List.length_take];omega
       rw[List.length_append,this,List.take_add]
      ·have hd:xs.drop (T.size t)= []:=List.drop_eq_nil_of_le (by omega)
       have:ws.length=xs.length:=by rw[←hlen,List.length_take];omega
       have hl0:l.length=0:=by have:=h2.1;rw[hd]at this;simpa using this.symm
       rw[hd,List.length_append,this,hl0];simp[List.take_of_length_le (show xs.length≤T.size t by omega)]
     rw[e];exact hA.append h2
    ·obtain⟨c,hc,h⟩:=jb h
     obtain⟨w,hw,hs⟩:=ih _ _ _ _ h;obtain⟨l,hl,hr⟩:=ihf _ _ _ _ hw;refine⟨w::l,by simpa using hl,fun G xs hx=> ?_⟩;obtain⟨x,hx0,hcx⟩:=hx.get hc;cases xs with
     |nil=>simp at hx0
     |cons y ys=>
      simp only[List.getElem?_cons_zero,Option.some.injEq]at hx0;subst hx0;have h2:=hr G _ (hx.drop 1);simp only[List.drop_succ_cons,List.drop_zero]at h2;simpa using (LRel.one (hs G _ hcx)).append h2
  have elems:∀(e:TypeId) (m:Nat) (cs acc:List V) (k:List V→Option α) (r:α),shElems T (shape T n) e m cs acc k=some r→
    ∃l,k (acc++l)=some r∧∀G xs,LRel G cs xs→LRel G l (xs.take l.length):=by
   intro t m
   induction m with
   |zero=>intro cs acc k r h;exact⟨[],by simpa[shElems]using h,fun G xs _=>by simpa using LRel.nil G⟩
   |succ m ihf=>
    intro cs acc k r h;simp only[shElems]at h;split at h
    ·obtain⟨w,hw,hs⟩:=ih _ _ _ _ h
     obtain⟨ws,rfl,hw⟩:=zbr hw;obtain⟨l,hl,hr⟩:=ihf _ _ _ _ hw;refine⟨ws++l,by rw[←List.append_assoc];exact hl,fun G xs hx=> ?_⟩;obtain⟨a,ha,hA⟩:=(hs G (.agg (xs.take (T.size t)).toArray) ((hx.take _).toAgg (a:=(xs.take (T.size t)).toArray))).agg';simp only[Value.agg.injEq]at ha;subst ha;simp only at hA;have h2:=hr G _ (hx.drop (T.size t));have hlen:(xs.take (T.size t)).length=ws.length:=hA.1
     have e:xs.take (ws++l).length=xs.take (T.size t)++(xs.drop (T.size t)).take l.length:=by
      by_cases hz:T.size t≤xs.length
      ·have:ws.length=T.size t:=by rw[←hlen,List.length_take];omega
       rw[List.length_append,this,List.take_add]
      ·have hd:xs.drop (T.size t)= []:=List.drop_eq_nil_of_le (by omega)
       have:ws.length=xs.length:=by rw[←hlen,List.length_take];omega
       have hl0:l.length=0:=by have:=h2.1;rw[hd]at this;simpa using this.symm
       rw[hd,List.length_append,this,hl0];simp[List.take_of_length_le (show xs.length≤T.size t by omega)]
     rw[e];exact hA.append h2
    ·obtain⟨c,hc,h⟩:=jb h
     obtain⟨w,hw,hs⟩:=ih _ _ _ _ h;obtain⟨l,hl,hr⟩:=ihf _ _ _ _ hw;refine⟨w::l,by simpa using hl,fun G xs hx=> ?_⟩;obtain⟨x,hx0,hcx⟩:=hx.get hc;cases xs with
     |nil=>simp at hx0
     |cons y ys=>
      simp only[List.getElem?_cons_zero,Option.some.injEq]at hx0;subst hx0;have h2:=hr G _ (hx.drop 1);simp only[List.drop_succ_cons,List.drop_zero]at h2;simpa using (LRel.one (hs G _ hcx)).append h2
  have parts:∀(ts:List TypeId) (cs acc:List V) (k:List V→Option α) (r:α),shParts (shape T n) ts cs acc k=some r→
    ∃l,k (acc++l)=some r∧l.length=ts.length∧∀G xs,LRel G cs xs→LRel G l (xs.take l.length):=by
   intro ts
   induction ts with
   |nil=>intro cs acc k r h;exact⟨[],by simpa[shParts]using h,rfl,fun G xs _=>by simpa using LRel.nil G⟩
   |cons t ts ihf=>
    intro cs acc k r h;simp only[shParts]at h;obtain⟨c,hc,h⟩:=jb h;obtain⟨w,hw,hs⟩:=ih _ _ _ _ h;obtain⟨l,hl,hn,hr⟩:=ihf _ _ _ _ hw;refine⟨w::l,by simpa using hl,by simp[hn],fun G xs hx=> ?_⟩;obtain⟨x,hx0,hcx⟩:=hx.get hc;cases xs with
    |nil=>simp at hx0
    |cons y ys=>
     simp only[List.getElem?_cons_zero,Option.some.injEq]at hx0;subst hx0;have h2:=hr G _ (hx.drop 1);simp only[List.drop_succ_cons,List.drop_zero]at h2;simpa using (LRel.one (hs G _ hcx)).append h2
  intro t v k r h;simp only[shape]at h;split at h
  ·obtain⟨j,hv,h'⟩:=zjz h;subst hv;exact⟨_,h',.refl _⟩
  ·obtain⟨i,rfl,h⟩:=zos h;exact⟨_,h,.refl _⟩
  ·obtain⟨i,rfl,h⟩:=xip h;exact⟨_,h,.refl _⟩
  ·obtain⟨j,hv,h'⟩:=xiq h;subst hv;exact⟨_,h',.refl _⟩
  ·rename_i e he
   split at h
   ·exact⟨_,h,.refl _⟩
   ·exact⟨_,h,.refl _⟩
   ·unfold v5 at h
    split at h
    ·rename_i nn z l _ _
     split at h
     ·rename_i hz
      refine⟨_,h,fun G x hx=> ?_⟩;cases nn with
      |true=>
       have:z=T.size e:=Nat.eq_of_beq_eq_true (by simpa using hz);subst this;exact hx
      |false=>
       cases hx with
       |nils sz=>exact .nils _
     ·cases h
    ·cases h
  ·obtain⟨cs,rfl,h⟩:=zbr h
   obtain⟨hc,h⟩:=xf h;obtain⟨l,hl,hr⟩:=fields _ _ _ _ _ h;obtain⟨hn,hl⟩:=xf hl;simp only[List.nil_append]at hn hl;refine⟨_,hl,fun G x hx=> ?_⟩;obtain⟨a,rfl,hA⟩:=hx.agg';have h2:=hr G _ hA
   have:a.toList.take l.length=a.toList:=by
    apply List.take_of_length_le;rw[hA.1,Nat.eq_of_beq_eq_true hc,Nat.eq_of_beq_eq_true hn];exact Nat.le_refl _
   rw[this]at h2;exact h2.toAgg
  ·obtain⟨cs,rfl,h⟩:=zbr h
   obtain⟨hc,h⟩:=xf h;obtain⟨l,hl,hr⟩:=elems _ _ _ _ _ _ h;obtain⟨hn,hl⟩:=xf hl;simp only[List.nil_append]at hn hl;refine⟨_,hl,fun G x hx=> ?_⟩;obtain⟨a,rfl,hA⟩:=hx.agg';have h2:=hr G _ hA
   have:a.toList.take l.length=a.toList:=by
    apply List.take_of_length_le;rw[hA.1,Nat.eq_of_beq_eq_true hc,Nat.eq_of_beq_eq_true hn];exact Nat.le_refl _
   rw[this]at h2;exact h2.toAgg
  ·obtain⟨cs,rfl,h⟩:=zor h
   obtain⟨hc,h⟩:=xf h;obtain⟨l,hl,hn,hr⟩:=parts _ _ _ _ _ h;simp only[List.nil_append]at hl;refine⟨_,hl,fun G x hx=> ?_⟩;obtain⟨a,rfl,hA⟩:=hx.tup';have h2:=hr G _ hA
   have:a.toList.take l.length=a.toList:=by
    apply List.take_of_length_le;rw[hA.1,Nat.eq_of_beq_eq_true hc,hn];exact Nat.le_refl _
   rw[this]at h2;exact h2.toTup
  ·exact⟨_,h,.refl _⟩
end
end Go.Den
