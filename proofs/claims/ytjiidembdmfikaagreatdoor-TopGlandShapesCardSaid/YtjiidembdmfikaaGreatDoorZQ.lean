import Derived.Test.YtjiidembdmfikaaGreatDoorZO
import Derived.ProofKit
import Derived.DataReads
import Derived.OpenShut
import Derived.Carry
import Derived.WideKeyArgs
set_option linter.all false
set_option maxHeartbeats 8000000
set_option maxRecDepth 100000
namespace Go.Den
open Go Go.ChangeShapes
def G0(w:World):Gh:=⟨fun b=>match w.heap[b]? with|some (.cells c _ _)=>some (.cells c)|_=>none,fun _=> .fresh⟩
theorem yzi{T:Tab}{w:World}(hg:∀g cs,T.glob g=some cs→∃c,(G0 w).M g=some (.cells c)∧RelL (G0 w) cs c∧pureL cs=true∧∀u∈cs,isCell u=true):Good T (G0 w) [] w ⟨[],0,[]⟩ where
 heap:=⟨fun id r h=>by simp at h,fun _ _=>rfl,fun id h=>by simp at h,fun id id' g g' h=>by cases h⟩
 mem:=by
  refine⟨fun b c h=> ?_,hg⟩;unfold G0 at h;dsimp only at h;split at h
  ·rename_i c' e fr hb
   cases h;exact⟨_,hb,e,fr,rfl⟩
  ·cases h
 stk:=⟨rfl,fun d own O h=>by simp at h,fun d e O O' b h=>by simp at h⟩
 sep:=fun b h ⟨O,hO,_⟩=>by cases hO
theorem yo0{w:World}{a:Addr}{x:Value}(h:w.cell? a=some x):(G0 w).rd a.block a.off=some x∧a.spot=none:=by
 unfold World.cell? at h;unfold Gh.rd G0;dsimp only;split at h
 ·rename_i c e fr hb
  rw[hb];split at h
  ·cases h
  ·rename_i hs
   exact⟨h,by cases hh:a.spot<;>simp_all⟩
 ·cases h
def mk(P:Program)(e:TypeId)(us:List V):V:=match P.underlying e with|some (.struct _)|some (.array _ _)=> .agg us|_=>us.headD .undef
def zie(P:Program)(tot:Nat):Nat→List Field→Bool
 |o,[]=>Nat.beq o tot
 |o,f::fs=>Nat.beq f.offset o&&zie P tot (o+P.cellsOf f.type) fs
def uf(P:Program):Nat→TypeId→Bool
 |0,_=>false
 |n+1,t=>match P.underlying t with
  |some .bool|some (.int _)|some .string|some (.float _)=>true
  |some (.slice e)=>Nat.blt 0 (P.cellsOf e)&&uf P n e
  |some (.struct fs)=>zie P (P.cellsOf t) 0 fs.toList&&fs.toList.all fun f=>uf P n f.type
  |some (.array m e)=>Nat.beq (P.cellsOf t) (m*P.cellsOf e)&&uf P n e
  |_=>false
def Cl(P:Program):Nat→TypeId→List V→Prop
 |0,_,_=>False
 |n+1,t,vs=>match P.underlying t with
  |some .bool=>∃b,vs= [.bool b]
  |some (.int k)=>∃i,vs= [.int k i]∧(Lit.int k i).wf=true
  |some .string=>∃s:List UInt8,vs= [.str s]∧s.length≤maxLen
  |some (.float k)=>∃b,vs= [.flt k b]
  |some (.slice e)=>∃b l,vs= [.sl b (P.cellsOf e) l]∧(b=false→l= [])∧l.length≤maxLen∧∀u∈l,∃us,Cl P n e us∧u=mk P e us
  |some (.struct fs)=>∃ps:List (List V),vs=ps.flatten∧ps.length=fs.size∧∀(i:Nat) f p,fs[i]? =some f→ps[i]? =some p→Cl P n f.type p
  |some (.array m e)=>∃ps:List (List V),vs=ps.flatten∧ps.length=m∧∀p∈ps,Cl P n e p
  |_=>False
structure Ok (G:Gh) (vs:List V) (cs:List Value):Prop where
 rel:LRel G vs cs
 pure:pureL vs=true
 cell:∀v∈vs,isCell v=true
theorem Ok.one{G:Gh}{v:V}{x:Value}(h:Rel G v x)(hp:pureV v=true)(hc:isCell v=true):Ok G [v] [x] where
 rel:=⟨rfl,fun i a b ha hb=>by
  cases i with
  |zero=>simp at ha hb;subst ha hb;exact h
  |succ i=>simp at ha⟩
 pure:=pureL_iff.2 fun u hu=>by simp at hu;subst hu;exact hp
 cell:=fun u hu=>by simp at hu;subst hu;exact hc
theorem Ok.nil(G:Gh):Ok G [] []:=⟨⟨rfl,fun i a b ha=>by simp at ha⟩,rfl,fun v h=>by cases h⟩
theorem Ok.app{G:Gh}{vs vs':List V}{cs cs':List Value}(h:Ok G vs cs)(h':Ok G vs' cs'):Ok G (vs++vs') (cs++cs') where
 rel:=⟨by rw[List.length_append,List.length_append,h.rel.1,h'.rel.1],fun i a b ha hb=>by
  rw[List.getElem?_append]at ha hb;rw[h.rel.1]at hb;split at ha
  ·rename_i hi
   rw[if_pos hi]at hb;exact h.rel.2 i a b ha hb
  ·rename_i hi
   rw[if_neg hi]at hb;exact h'.rel.2 _ a b ha hb⟩
 pure:=pureL_iff.2 fun u hu=>by
  rcases List.mem_append.1 hu with hu|hu
  ·exact pureL_iff.1 h.pure u hu
  ·exact pureL_iff.1 h'.pure u hu
 cell:=fun u hu=>by
  rcases List.mem_append.1 hu with hu|hu
  ·exact h.cell u hu
  ·exact h'.cell u hu
theorem ymh{G:Gh}{b:Nat}{sz:Nat}:∀(L:List (List V)) (o:Nat),(∀(i:Nat) vs,L[i]? =some vs→vs.length=sz∧∀(j:Nat) u,vs[j]? =some u→∃x,G.rd b (o+(i*sz+j))=some x∧Rel G u x)→
  ∀(k:Nat) u,L.flatten[k]? =some u→∃x,G.rd b (o+k)=some x∧Rel G u x
 | [],o,_,k,u,h=>by simp at h
 |vs::L,o,hL,k,u,h=>by
  obtain⟨h1,h2⟩:=hL 0 vs rfl;rw[List.flatten_cons,List.getElem?_append]at h;split at h
  ·have:=h2 k u h
   simpa using this
  ·rename_i hk
   have:=ymh L (o+sz) (fun i vs' hi=>by
    obtain⟨h3,h4⟩:=hL (i+1) vs' (by simpa using hi);refine⟨h3,fun j u hu=> ?_⟩;obtain⟨x,hx,hr⟩:=h4 j u hu;exact⟨x,by rw[←hx];congr 1;rw[Nat.succ_mul];omega,hr⟩) (k- vs.length) u h
   obtain⟨x,hx,hr⟩:=this;exact⟨x,by rw[←hx];congr 1;omega,hr⟩
theorem zhe{P:Program}{e:TypeId}{us:List V}{n:Nat}(h:Cl P n e us)(hc:∀v∈us,isCell v=true):cellsOf (mk P e us)=us∧(∀k,us.length=k→zg k (mk P e us)=true)∧(pureL us=true→pureV (mk P e us)=true):=by
 cases n with
 |zero=>cases h
 |succ n=>
  unfold Cl at h;unfold mk
  have one:∀v,us= [v]→cellsOf (us.headD .undef)=us∧(∀k,us.length=k→zg k (us.headD .undef)=true)∧(pureL us=true→pureV (us.headD .undef)=true):=by
   rintro v rfl;have hv:=hc v (List.mem_singleton.2 rfl);refine⟨?_,fun k hk=> ?_,fun hp=>pureL_iff.1 hp v (List.mem_singleton.2 rfl)⟩
   ·cases v<;>first|rfl|(simp[isCell]at hv)
   ·simp at hk
    subst hk;cases v<;>first|(simp[isCell]at hv;done)|simp[zg,isCell]
  have ag:cellsOf (.agg us)=us∧(∀k,us.length=k→zg k (.agg us)=true)∧(pureL us=true→pureV (.agg us)=true):=by
   refine⟨rfl,fun k hk=> ?_,fun hp=> ?_⟩
   ·subst hk
    simp only[zg,Bool.and_eq_true];exact⟨by simp,List.all_eq_true.2 hc⟩
   ·simpa[pureV,pureL,idsV]using hp
  split at h
  ·rename_i hu;simp only[hu];obtain⟨b,hb⟩:=h;exact one _ hb
  ·rename_i hu;simp only[hu];obtain⟨b,hb,_⟩:=h;exact one _ hb
  ·rename_i hu;simp only[hu];obtain⟨b,hb,_⟩:=h;exact one _ hb
  ·rename_i hu;simp only[hu];obtain⟨b,hb⟩:=h;exact one _ hb
  ·rename_i hu;simp only[hu];obtain⟨b,l,hb,_⟩:=h;exact one _ hb
  ·rename_i hu;simp only[hu];exact ag
  ·rename_i hu;simp only[hu];exact ag
  ·cases h
section
variable {H:Type} {enc:TypeId×Value→H} {P:Program} {w:World} {base:Nat} {spare:Nat→Bool} {held:Bool}
theorem ymn{n:Nat}{fuel:Nat}{cs:List Value}(ih:∀t cs x,uf P n t=true→DataW.trod enc P w base spare held fuel t cs=some x→∃vs,Ok (G0 w) vs cs∧Cl P n t vs):
  ∀(fs:List Field) (o:Nat),zie P cs.length o fs=true→(fs.all fun f=>uf P n f.type)=true→(∀f∈fs,∃x,DataW.trod enc P w base spare held fuel f.type ((cs.drop f.offset).take (P.cellsOf f.type))=some x)→
  ∃ps:List (List V),Ok (G0 w) ps.flatten (cs.drop o)∧ps.length=fs.length∧∀(i:Nat) f p,fs[i]? =some f→ps[i]? =some p→Cl P n f.type p
 | [],o,hc,_,_=>by
  have:o=cs.length:=Nat.eq_of_beq_eq_true hc;subst this;exact⟨[],by simpa using Ok.nil _,rfl,fun i f p h=>by simp at h⟩
 |f::fs,o,hc,ha,hf=>by
  simp only[zie,Bool.and_eq_true]at hc;have ho:=Nat.eq_of_beq_eq_true hc.1;simp only[List.all_cons,Bool.and_eq_true]at ha;obtain⟨x,hx⟩:=hf f (List.mem_cons_self);obtain⟨vs,h1,h2⟩:=ih _ _ _ ha.1 hx;obtain⟨ps,h3,h4,h5⟩:=ymn ih fs _ hc.2 ha.2 (fun g hg=>hf g (List.mem_cons_of_mem _ hg));refine⟨vs::ps,?_,by simp[h4],fun i g p hg hp=> ?_⟩
  ·have:cs.drop o=(cs.drop o).take (P.cellsOf f.type)++cs.drop (o+P.cellsOf f.type):=by
    rw[←List.drop_drop,List.take_append_drop]
   rw[this,List.flatten_cons];rw[ho]at h1;exact h1.app h3
  ·cases i with
   |zero=>simp at hg hp;subst hg hp;exact h2
   |succ i=>exact h5 i g p (by simpa using hg) (by simpa using hp)
theorem ylu{n fuel:Nat}{e:TypeId}{cs:List Value}(he:uf P n e=true)(ih:∀t cs x,uf P n t=true→DataW.trod enc P w base spare held fuel t cs=some x→∃vs,Ok (G0 w) vs cs∧Cl P n t vs):
  ∀(m i:Nat),cs.length=(i+m)*P.cellsOf e→(∀j,i≤j→j<i+m→∃x,DataW.trod enc P w base spare held fuel e ((cs.drop (j*P.cellsOf e)).take (P.cellsOf e))=some x)→
  ∃ps:List (List V),Ok (G0 w) ps.flatten (cs.drop (i*P.cellsOf e))∧ps.length=m∧∀p∈ps,Cl P n e p
 |0,i,hl,_=>by
  refine⟨[],?_,rfl,fun p h=>by cases h⟩;rw[List.drop_eq_nil_of_le (by rw[hl];simp)];exact Ok.nil _
 |m+1,i,hl,hx=>by
  obtain⟨x,h0⟩:=hx i (Nat.le_refl _) (by omega);obtain⟨vs,h1,h2⟩:=ih _ _ _ he h0;obtain⟨ps,h3,h4,h5⟩:=ylu he ih m (i+1) (by rw[hl];congr 1;omega) (fun j hj hj'=>hx j (by omega) (by omega));refine⟨vs::ps,?_,by simp[h4],fun p hp=> ?_⟩
  ·have:cs.drop (i*P.cellsOf e)=(cs.drop (i*P.cellsOf e)).take (P.cellsOf e)++cs.drop ((i+1)*P.cellsOf e):=by
    rw[Nat.succ_mul,←List.drop_drop,List.take_append_drop]
   rw[this,List.flatten_cons];exact h1.app h3
  ·rcases List.mem_cons.1 hp with rfl|hp
   ·exact h2
   ·exact h5 p hp
theorem yqk{fuel:Nat}{t:TypeId}{cs:List Value}{x:DataW H×List MemPlace}{k:FloatKind}(ht:P.underlying t=some (.float k))(h:DataW.trod enc P w base spare held fuel t cs=some x):∃b,cs= [.float k b]:=by
 cases fuel with
 |zero=>simp[DataW.trod]at h
 |succ n=>
  unfold DataW.trod at h;rw[ht]at h;split at h<;>simp_all
theorem xfq:∀(n:Nat) (fuel:Nat) (t:TypeId) (cs:List Value) (x:DataW H×List MemPlace),uf P n t=true→DataW.trod enc P w base spare held fuel t cs=some x→∃vs,Ok (G0 w) vs cs∧Cl P n t vs:=by
 intro n
 induction n with
 |zero=>intro fuel t cs x h;cases h
 |succ n ih=>
  intro fuel t cs x hk h;unfold uf at hk;split at hk
  ·rename_i hu
   obtain⟨b,rfl,_⟩:=DataW.trod_bool hu h;exact⟨_,.one (.bool b) rfl rfl,by unfold Cl;simp only[hu];exact⟨b,rfl⟩⟩
  ·rename_i hu
   obtain⟨i,rfl,_,hw⟩:=DataW.trod_int hu h;exact⟨_,.one (.int _ i) rfl rfl,by unfold Cl;simp only[hu];exact⟨i,rfl,hw⟩⟩
  ·rename_i hu
   obtain⟨s,rfl,_,hs⟩:=DataW.trod_string hu h;exact⟨_,.one (.str s _ rfl) rfl rfl,by unfold Cl;simp only[hu];exact⟨_,rfl,by rw[Array.length_toList];exact hs⟩⟩
  ·rename_i hu
   obtain⟨b,rfl⟩:=yqk hu h;exact⟨_,.one (.flt _ b) rfl rfl,by unfold Cl;simp only[hu];exact⟨b,rfl⟩⟩
  ·rename_i e hu
   simp only[Bool.and_eq_true]at hk;obtain⟨hz,he⟩:=hk;have hz:0<P.cellsOf e:=Nat.le_of_ble_eq_true hz;rcases DataW.trod_slice hu h with⟨rfl,_⟩|⟨a,len,cap,elems,rest,f,_,rfl,_,hb,hl,hm,hlen,hel,_⟩
   ·exact⟨_,.one (.nils (P.cellsOf e)) rfl rfl,by unfold Cl;simp only[hu];exact⟨false,[],rfl,fun _=>rfl,Nat.zero_le _,fun u hu=>by cases hu⟩⟩
   ·by_cases h0:len=0
    ·subst h0
     exact⟨_,.one (.sle (P.cellsOf e) a cap) rfl rfl,by unfold Cl;simp only[hu];exact⟨true,[],rfl,fun _=>rfl,Nat.zero_le _,fun u hu=>by cases hu⟩⟩
    ·have each:∀i,i<len→∃cs' vs,w.cells? base (a.add (i*P.cellsOf e)) (P.cellsOf e)=some cs'∧Ok (G0 w) vs cs'∧Cl P n e vs:=by
      intro i hi;have h1:=hel i hi;have h2:∃y,elems[i]? =some y:=⟨elems[i]'(by omega),List.getElem?_eq_getElem (by omega)⟩;obtain⟨y,hy⟩:=h2;rw[hy]at h1;cases hc:w.cells? base (a.add (i*P.cellsOf e)) (P.cellsOf e)with
      |none=>rw[hc]at h1;cases h1
      |some cs'=>
       rw[hc]at h1;obtain⟨vs,h3,h4⟩:=ih f e cs' y he h1;exact⟨cs',vs,rfl,h3,h4⟩
     have hspot:a.spot=none:=by
      obtain⟨cs',vs,h1,_⟩:=each 0 (by omega);obtain⟨_,h2,h3⟩:=World.cells?_some h1;have h4:=h3 0 hz;rw[Nat.zero_mul]at h4;have h5:cs'[0]? =some (cs'[0]'(by omega)):=List.getElem?_eq_getElem (by omega);rw[h5]at h4;simpa[Addr.add]using (yo0 h4).2
     obtain⟨blk,off,spot⟩:=a;dsimp only at hspot;subst hspot;let g:Nat→List V:=fun i=>if hi:i<len then Classical.choose (Classical.choose_spec (each i hi))else []
     have hg:∀i,i<len→∃cs',w.cells? base ((⟨blk,off,none⟩:Addr).add (i*P.cellsOf e)) (P.cellsOf e)=some cs'∧Ok (G0 w) (g i) cs'∧Cl P n e (g i):=by
      intro i hi;have:=Classical.choose_spec (Classical.choose_spec (each i hi));exact⟨_,this.1,by simpa only[g,dif_pos hi]using this.2.1,by simpa only[g,dif_pos hi]using this.2.2⟩
     have hgl:∀i,i<len→(g i).length=P.cellsOf e:=fun i hi=>by
      obtain⟨cs',h1,h2,_⟩:=hg i hi;rw[←h2.rel.1,(World.cells?_some h1).2.1]
     have hmem:∀v∈(List.range len).map (fun i=>mk P e (g i)),∃i,i<len∧v=mk P e (g i):=fun v hv=>by
      obtain⟨i,hi,rfl⟩:=List.mem_map.1 hv;exact⟨i,List.mem_range.1 hi,rfl⟩
     have hflat:flat ((List.range len).map (fun i=>mk P e (g i)))=((List.range len).map g).flatten:=by
      unfold flat;rw[List.flatMap_map,List.flatMap_def];congr 1;refine List.map_congr_left fun i hi=> ?_;obtain⟨cs',_,h2,h3⟩:=hg i (List.mem_range.1 hi);exact(zhe h3 h2.cell).1
     have hcells:∀(k:Nat) u,(flat ((List.range len).map (fun i=>mk P e (g i))))[k]? =some u→∃x,(G0 w).rd blk (off+k)=some x∧Rel (G0 w) u x:=by
      rw[hflat];refine ymh (sz:=P.cellsOf e) _ off fun i vs hi=> ?_;rw[List.getElem?_map]at hi;cases hr:(List.range len)[i]? with
      |none=>rw[hr]at hi;cases hi
      |some i'=>
       have hil:=(List.getElem?_eq_some_iff.1 hr);obtain⟨hil,hii⟩:=hil;simp only[List.getElem_range]at hii;subst hii;rw[hr]at hi;simp only[Option.map_some,Option.some.injEq]at hi;subst hi;have hil:i<len:=by simpa using hil
       refine⟨hgl i hil,fun j u hu=> ?_⟩;obtain⟨cs',h1,h2,_⟩:=hg i hil;obtain⟨_,h3,h4⟩:=World.cells?_some h1;have hj:j<P.cellsOf e:=by rw[←hgl i hil];exact(List.getElem?_eq_some_iff.1 hu).1
       have h5:=h4 j hj;have h6:cs'[j]? =some (cs'[j]'(by omega)):=List.getElem?_eq_getElem (by omega);rw[h6]at h5;have h7:=(yo0 h5).1;refine⟨_,?_,h2.rel.2 j u _ hu h6⟩;rw[←h7]
       have ha:∀(m k:Nat),(((⟨blk,off,none⟩:Addr).add m).add k)=⟨blk,off+(m+k),none⟩:=by
        intro m k;unfold Addr.add;split<;>split<;>simp_all<;>omega
       rw[ha]
     have hpL:pureL ((List.range len).map (fun i=>mk P e (g i)))=true:=pureL_iff.2 fun v hv=>by
      obtain⟨i,hi,rfl⟩:=hmem v hv;obtain⟨cs',_,h2,h3⟩:=hg i hi;exact(zhe h3 h2.cell).2.2 h2.pure
     have hE:∀v∈(List.range len).map (fun i=>mk P e (g i)),zg (P.cellsOf e) v=true:=by
      intro v hv;obtain⟨i,hi,rfl⟩:=hmem v hv;obtain⟨cs',_,h2,h3⟩:=hg i hi;exact(zhe h3 h2.cell).2.1 _ (hgl i hi)
     have hR:=Rel.sl (G:=G0 w) (P.cellsOf e) ((List.range len).map (fun i=>mk P e (g i))) blk off cap (fun k=>((G0 w).rd blk (off+k)).getD Go.undef) (by simpa using hl) hpL hE (fun k u hk=>by
      obtain⟨x,hx,_⟩:=hcells k u hk;rw[hx];rfl) (fun k u hk=>by
      obtain⟨x,hx,hr⟩:=hcells k u hk;rw[hx];exact hr)
     rw[List.length_map,List.length_range]at hR;refine⟨_,.one hR (by simp[pureV,idsV]) rfl,?_⟩;unfold Cl;rw[hu];refine⟨true,(List.range len).map (fun i=>mk P e (g i)),rfl,(fun h=>by cases h),(by rw[List.length_map,List.length_range];omega),fun u hu=> ?_⟩;obtain⟨i,hi,rfl⟩:=hmem u hu;obtain⟨cs',_,_,h3⟩:=hg i hi;exact⟨g i,h3,rfl⟩
  ·rename_i fs hu
   simp only[Bool.and_eq_true]at hk;obtain⟨xs,m,rfl,rfl,hlen,hxs,hf⟩:=DataW.trod_struct hu h
   obtain⟨ps,h1,h2,h3⟩:=ymn (n:=n) (cs:=cs) (fun t cs x=>ih m t cs x) fs.toList 0 (by rw[hlen];exact hk.1) hk.2 (fun f hf'=>by
    obtain⟨i,hi,rfl⟩:=List.mem_iff_getElem.1 hf';have h4:=hf i _ (by rw[←Array.getElem?_toList];exact List.getElem?_eq_getElem hi);have hi':i<xs.length:=by rw[hxs];simpa using hi
    rw[List.getElem?_eq_getElem hi']at h4;exact⟨_,h4⟩)
   refine⟨_,by simpa using h1,?_⟩;unfold Cl;simp only[hu];exact⟨ps,rfl,by simpa using h2,fun i f p hf' hp=>h3 i f p (by rw[Array.getElem?_toList];exact hf') hp⟩
  ·rename_i k e hu
   simp only[Bool.and_eq_true]at hk;obtain⟨xs,m,rfl,rfl,hlen,hxs,hf⟩:=DataW.trod_array hu h;have hsz:=Nat.eq_of_beq_eq_true hk.1
   obtain⟨ps,h1,h2,h3⟩:=ylu (n:=n) (cs:=cs) hk.2 (fun t cs x=>ih m t cs x) k 0 (by rw[hlen,hsz,Nat.zero_add]) (fun j _ hj=>by
    have h4:=hf j (by omega);have hj':j<xs.length:=by omega
    rw[List.getElem?_eq_getElem hj']at h4;exact⟨_,h4⟩)
   refine⟨_,by simpa using h1,?_⟩;unfold Cl;simp only[hu];exact⟨ps,rfl,h2,h3⟩
  ·cases hk
end
end Go.Den
