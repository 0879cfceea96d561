import Derived.Test.YtjiidembdmfikaaGreatDoorZE
import Derived.Laws.MakeOwn
set_option linter.all false
set_option maxHeartbeats 8000000
set_option maxRecDepth 100000
namespace Go.Den
open Go
section
variable {P:Program} {T:Tab} {slot:Option Nat} {m m':Mem} {x:V}
structure Src (P:Program) (G:Gh) (w:World) (sz:Nat) (l:List V) (y:Value):Prop where
 el:∀v∈l,zg sz v=true
 len:∀w',(Builtin.lenOf y).run P w'= .ok l.length w'
 first:∀n,n≤l.length→∃xs:List Value,LRel G (flat (l.take n)) xs∧∀w',w'.heap=w.heap→(Builtin.firstCells sz n y).run P w'= .ok xs.toArray w'
theorem xf7{w w':World}(h:w'.heap=w.heap)(a:Addr):w'.cell? a=w.cell? a:=by simp[World.cell?,h]
theorem zkp{G:Gh}{w:World}{sz:Nat}{l:List V}{b o cap:Nat}{c:Array Value}{e:TypeId}{fr:Nat×Nat}(hE:∀v∈l,zg sz v=true)(hb:w.heap[b]? =some (.cells c e fr))(hc:CellsRel G (flat l) c o):
  Src P G w sz l (.slice (some ⟨b,o,none⟩) l.length cap):=by
 refine⟨hE,fun w'=>by simp[Builtin.lenOf],fun n hn=> ?_⟩;have hsub:=hc.sub hE 0 n;simp only[List.drop_zero,Nat.zero_mul,Nat.add_zero]at hsub;obtain⟨xs,h1,h2⟩:=zny hsub;refine⟨xs,h1,fun w' hw=>run_firstCells_some w' sz n _ _ _ xs ?_ fun j v hv=> ?_⟩
 ·rw[h1.1,zds hE,List.length_take,vx hE]
  exact Nat.min_eq_left (Nat.mul_le_mul_right _ hn)
 ·rw[Addr.add_lit,xf7 hw,cell_of_row w _ _ c e fr hb]
  exact h2 j v hv
theorem zpb(P:Program)(G:Gh)(w:World)(sz cap len:Nat)(a:Addr):Src P G w sz [] (.slice (some a) 0 cap):=by
 refine⟨by simp,fun w'=>by simp[Builtin.lenOf],fun n hn=>⟨[],by simpa[flat]using LRel.nil G,fun w' hw=> ?_⟩⟩;have:n=0:=by simpa using hn
 subst this;simp[Builtin.firstCells,loadCells,loadCellsFrom]
theorem zdm{sz:Nat}{v:V}{k:List V→Prog}(h:Res slot (jv T sz v k) m x m'):
  ∃l,Res slot (k l) m x m'∧∀(G:Gh) (w:World) (y:Value),Rel G v y→HeapRel G T w m.H m.Fz→MRel G T w→Src P G w sz l y:=by
 unfold jv at h;split at h
 ·rename_i nn z l
  obtain⟨hz,h⟩:=h.needP;refine⟨l,h,fun G w y hy hH hM=> ?_⟩;cases hy with
  |nils sz=>exact⟨by simp,fun w'=>by simp[Builtin.lenOf],fun n hn=>⟨[],by simpa[flat]using LRel.nil G,fun w' hw=>by simp[Builtin.firstCells]⟩⟩
  |sle _ a cap=>exact zpb P G w _ cap 0 a
  |sl _ _ b o cap f hcap hp hE hr hv=>
   have:z=sz:=Nat.eq_of_beq_eq_true (by simpa using hz);subst this
   have hcase:flat l= []∨∃c e fr,G.M b=some (.cells c)∧w.heap[b]? =some (.cells c e fr):=by
    cases hf:flat l with
    |nil=>exact .inl rfl
    |cons u us=>
     have hu:(flat l)[0]? =some u:=by rw[hf];rfl
     have h0:=hr 0 u hu;unfold Gh.rd at h0;cases hMb:G.M b with
     |none=>rw[hMb]at h0;cases h0
     |some c=>
      rw[hMb]at h0;obtain⟨o',hb,hob⟩:=hM.mem b c hMb;obtain⟨c,e,fr,rfl,rfl,_⟩:=ObjC.cells hob h0;exact .inr ⟨c,e,fr,rfl,hb⟩
   rcases hcase with hnil|⟨c,e,fr,hMb,hb⟩
   ·-- an empty list may lie anywhere
    refine⟨hE,fun w'=>by simp[Builtin.lenOf],fun n hn=>⟨[],?_,fun w' hw=> ?_⟩⟩
    ·rw[zds hE,hnil];simpa using LRel.nil G
    ·have h0:n*z=0:=by
      have h1:=vx hE;rw[hnil]at h1;have:=Nat.mul_le_mul_right z hn;simp at h1;omega
     simp[Builtin.firstCells,loadCells,h0,loadCellsFrom]
   ·refine zkp hE hb fun k u hu=>⟨f k,?_,hv k u hu⟩
    have:=hr k u hu;simpa[Gh.rd,hMb,FC.rd]using this
 ·rename_i id
  obtain⟨r,hr,h⟩:=h.get;split at h
  ·rename_i b fl ty l
   obtain⟨hz,h⟩:=h.needP;have hz:=Nat.eq_of_beq_eq_true hz;refine⟨l,h,fun G w y hy hH hM=> ?_⟩;obtain⟨g,hg,h1,h2,h3,h4,h5,c,e,hc,hs,hcs,_⟩:=hH.rows id _ hr;cases hy with|ref _ a n cap hf ha=>
   obtain⟨rfl,rfl,_⟩:=ha g hg;rw[h1];exact zkp (by rw[←hz,←h2];exact h4) hc fun k u hu=>by obtain⟨y,hy,hr⟩:=hcs k u hu;exact⟨y,by simpa using hy,hr⟩
  ·exact h.fail.elim
 ·rename_i id a n
  obtain⟨r,hr,h⟩:=h.get;split at h
  ·rename_i b fl ty l
   obtain⟨hz,h⟩:=h.needP;have hz:=Nat.eq_of_beq_eq_true hz;refine⟨_,h,fun G w y hy hH hM=> ?_⟩;obtain⟨g,hg,h1,h2,h3,h4,h5,c,e,hc,hs,hcs,_⟩:=hH.rows id _ hr;cases hy with|sub _ _ _ ad cap hf hcb ha=>
   obtain⟨⟨hle,hlc,hroom⟩,⟨b1,o1,s1⟩,rfl,hb1,hs1,ho1⟩:=ha g hg;simp only at hb1 hs1 ho1;subst hb1;subst hs1;have hl:((l.drop a).take n).length=n:=by rw[List.length_take,List.length_drop];omega
   by_cases hn:n=0
   ·subst hn
    simpa using zpb P G w sz cap 0 _
   ·rw[ho1 (by omega)]
    have hcs':CellsRel G (flat l) c 0:=fun k u hu=>by obtain⟨y,hy,hr⟩:=hcs k u hu;exact⟨y,by simpa using hy,hr⟩
    have:=zkp (P:=P) (cap:=cap) (ylv h4 a n) hc (by simpa using hcs'.sub h4 a n);rw[hl,h2,hz]at this;rw[h2,hz];exact this
  ·exact h.fail.elim
 ·rename_i s
  obtain⟨hz,h⟩:=h.needP;have hz:=Nat.eq_of_beq_eq_true hz;subst hz;refine⟨_,h,fun G w y hy hH hM=> ?_⟩;cases hy with|str bs _ hbs=>
  subst hbs
  have hflat:∀(q:List UInt8),flat (q.map fun c=>V.int .u8 c.toNat)=q.map fun c=>V.int .u8 c.toNat:=fun q=>by
   induction q with
   |nil=>rfl
   |cons a q ih=>rw[List.map_cons,vn,ih];rfl
  refine⟨fun v hv=> ?_,fun w'=>by simp[Builtin.lenOf],fun n hn=>⟨(bs.data.toList.take n).map fun c=>Value.int .u8 c.toNat,?_,fun w' hw=> ?_⟩⟩
  ·obtain⟨c,_,rfl⟩:=List.mem_map.1 hv;rfl
  ·rw[←List.map_take,hflat]
   refine⟨by simp,fun i v z hv hz=> ?_⟩;rw[List.getElem?_map]at hv hz;cases hc:(bs.data.toList.take n)[i]? with
   |none=>rw[hc]at hv;cases hv
   |some c=>
    rw[hc]at hv hz;simp only[Option.map_some,Option.some.injEq]at hv hz;subst hv;subst hz;exact .int _ _
  ·simp only[Builtin.firstCells,Sem.run_pure]
   congr 1;apply Array.ext';simp[ByteArray.data_extract,List.extract_eq_take_drop]
 ·exact h.fail.elim
theorem ze8(G:Gh)(n:Nat):Rel G (.int .i64 n) (goInt n):= .int _ _
theorem yxi(hT:TabOk P T){t:TypeId}{v:V}{k:Nat→Prog}(h:Res slot (wo (T.td t) v k) m x m'):
  ∃n,Res slot (k n) m x m'∧∀(G:Gh) (w:World) (y:Value) (tys:Array TypeId) (ty:TypeId),tys[0]? =some t→(zm v=false→Rel G v y)→HeapRel G T w m.H m.Fz→MRel G T w→(Builtin.len_ tys ty #[y]).run P w= .ok (goInt n) w:=by
 unfold wo at h;split at h
 ·rename_i n e ht
  refine⟨n,h,fun G w y tys ty htys hy hH hM=> ?_⟩;simp[Builtin.len_,htys,run_underlying (hT.array ht)]
 ·rename_i e nn z l ht
  refine⟨_,h,fun G w y tys ty htys hy hH hM=> ?_⟩;cases hy rfl<;>simp[Builtin.len_,htys,run_underlying (hT.slice ht)]
 ·rename_i s ht
  refine⟨_,h,fun G w y tys ty htys hy hH hM=> ?_⟩;cases hy rfl with|str bs _ hbs=>
  subst hbs;simp[Builtin.len_,htys,run_underlying (hT.string ht)]
 ·rename_i e id ht
  obtain⟨r,hr,h⟩:=h.get;split at h
  ·refine⟨_,h,fun G w y tys ty htys hy hH hM=> ?_⟩
   obtain⟨g,hg,h1,h2,_⟩:=hH.rows id _ hr;cases hy rfl with|ref _ a n cap hf ha=>
   obtain⟨rfl,rfl,_⟩:=ha g hg;simp[Builtin.len_,htys,run_underlying (hT.slice ht),h1]
  ·exact h.fail.elim
 ·rename_i e id a b ht
  refine⟨_,h,fun G w y tys ty htys hy hH hM=> ?_⟩;cases hy rfl;simp[Builtin.len_,htys,run_underlying (hT.slice ht)]
 ·rename_i kt e ht
  refine⟨_,h,fun G w y tys ty htys hy hH hM=> ?_⟩;cases hy rfl;simp[Builtin.len_,htys,run_underlying (hT.mapT ht)]
 ·rename_i kt e id ht
  obtain⟨r,hr,h⟩:=h.get;split at h
  ·refine⟨_,h,fun G w y tys ty htys hy hH hM=> ?_⟩
   obtain⟨g,hg,h1,h2,ents,clock,hc,hs,_⟩:=hH.rows id _ hr;cases hy rfl with|map _ r hf ha=>
   obtain rfl:=ha g hg;simp[Builtin.len_,htys,run_underlying (hT.mapT ht),getObj,Sem.run,hc,hs]
  ·exact h.fail.elim
 ·exact h.fail.elim
theorem j8(hT:TabOk P T){t:TypeId}{d:TD}(h:T.td t=d)(hd:d≠ .other){u:TypeId}(hu:u∈d.subs):∃i,T.ti u=some i:=by
 obtain⟨i,hi,_⟩:=zee (T:=T) (t:=t) (by rw[h];exact hd);exact hT.subT hi (by rw[h];exact hu)
theorem yyu(hT:TabOk P T){t:TypeId}{v:V}{i:Int}{k:V→Prog}(h:Res slot (zbk T t v i k) m x m'):
  ∃u,Res slot (k u) m x m'∧∀(G:Gh) (w:World) (y:Value) (kd:IntKind),Rel G v y→HeapRel G T w m.H m.Fz→MRel G T w→∃z,(Instr.indexAt t y (.int kd i)).run P w= .ok z w∧Rel G u z:=by
 unfold zbk at h;split at h
 ·rename_i e ht
  have hu:=hT.slice ht
  obtain⟨te,hte⟩:=j8 hT ht (by simp) (u:=e) (by simp[TD.subs])
    -- the address of an element
  have run:∀(w:World) (kd:IntKind) (b o n cap:Nat),0≤i→i<n→(Instr.indexAt t (.slice (some ⟨b,o,none⟩) n cap) (.int kd i)).run P w= .ok (.pointer (some ⟨b,o+i.toNat*T.size e,none⟩)) w:=by
   intro w kd b o n cap h0 h1;simp[Instr.indexAt,asIntOf,run_underlying hu,h0,h1,hT.size hte,Addr.add_lit]
  split at h
  ·rename_i nn sz l
   obtain⟨hb,h⟩:=h.needP;simp only[Bool.and_eq_true,decide_eq_true_eq]at hb;obtain⟨⟨h0,h1⟩,hz⟩:=hb;have hz:=Nat.eq_of_beq_eq_true hz;refine⟨_,h,fun G w y kd hy hH hM=> ?_⟩;cases hy with
   |nils sz=>simp at h1;omega
   |sle sz a cap=>simp at h1;omega
   |sl _ _ b o cap f hcap hp hE hr hv=>
    refine⟨_,run w kd b o _ cap h0 h1,?_⟩;have:=Rel.pp (G:=G) sz l i.toNat 0 b o f hp hE hr hv;rw[hz]at this⊢;simpa using this
  ·rename_i id
   obtain⟨r,hr,h⟩:=h.get;split at h
   ·rename_i b fl ety l
    obtain⟨hb,h⟩:=h.needP;simp only[Bool.and_eq_true,decide_eq_true_eq]at hb;obtain⟨⟨h0,h1⟩,hz⟩:=hb;have hz:=Nat.eq_of_beq_eq_true hz;refine⟨_,h,fun G w y kd hy hH hM=> ?_⟩;obtain⟨g,hg,e1,e2,_⟩:=hH.rows id _ hr;cases hy with|ref _ a n cap hf ha=>
    obtain⟨rfl,rfl,_⟩:=ha g hg;refine⟨_,run w kd _ _ _ cap h0 (by rw[e1];exact h1),.ptr id _ _ _ _ hf fun g' hg'=> ?_⟩;rw[hg]at hg';cases hg';rw[e2,hz];simp
   ·exact h.fail.elim
  ·rename_i id a n
   obtain⟨r,hr,h⟩:=h.get;split at h
   ·rename_i b fl ety l
    obtain⟨hb,h⟩:=h.needP;simp only[Bool.and_eq_true,decide_eq_true_eq]at hb;obtain⟨⟨h0,h1⟩,hz⟩:=hb;have hz:=Nat.eq_of_beq_eq_true hz;refine⟨_,h,fun G w y kd hy hH hM=> ?_⟩;obtain⟨g,hg,e1,e2,_⟩:=hH.rows id _ hr;cases hy with|sub _ _ _ ad cap hf hcb ha=>
    obtain⟨⟨hle,hlc,hroom⟩,⟨b1,o1,s1⟩,rfl,hb1,hs1,ho1⟩:=ha g hg;simp only at hb1 hs1 ho1;subst hb1;subst hs1;have ho:=ho1 (by omega);subst ho;refine⟨_,run w kd _ _ _ cap h0 h1,.ptr id _ _ _ _ hf fun g' hg'=> ?_⟩;rw[hg]at hg';cases hg';rw[e2,hz,Nat.add_mul];simp
   ·exact h.fail.elim
  ·exact h.fail.elim
 ·rename_i n e ht
  have hu:=hT.array ht;obtain⟨te,hte⟩:=j8 hT ht (by simp) (u:=e) (by simp[TD.subs]);obtain⟨hb,h⟩:=h.needP;simp only[decide_eq_true_eq]at hb;obtain⟨h0,h1⟩:=hb
  have run:∀(w:World) (kd:IntKind) (b o:Nat),(Instr.indexAt t (.pointer (some ⟨b,o,none⟩)) (.int kd i)).run P w= .ok (.pointer (some ⟨b,o+i.toNat*T.size e,none⟩)) w:=by
   intro w kd b o;simp[Instr.indexAt,asIntOf,run_underlying hu,h0,h1,hT.size hte,Addr.add_lit,Instr.sureAddr]
  split at h
  ·rename_i id a j _
   refine⟨_,h,fun G w y kd hy hH hM=> ?_⟩;cases hy with|ptr _ _ _ b0 o0 hf ha=>
   refine⟨_,run w kd _ _,.ptr id _ _ _ _ hf fun g' hg'=> ?_⟩;obtain⟨rfl,rfl⟩:=ha g' hg';exact⟨rfl,by omega⟩
  ·rename_i sz l a j _
   refine⟨_,h,fun G w y kd hy hH hM=> ?_⟩;cases hy with|pp _ _ _ _ b o f hp hE hr hv=>
   refine⟨_,run w kd _ _,?_⟩;have:=Rel.pp (G:=G) sz l a (j+i.toNat*T.size e) b o f hp hE hr hv;rw[show o+(a*sz+j)+i.toNat*T.size e=o+(a*sz+(j+i.toNat*T.size e)) by omega];exact this
  ·rename_i gl j _
   refine⟨_,h,fun G w y kd hy hH hM=> ?_⟩;cases hy;exact⟨_,run w kd _ _,.glob gl _⟩
  ·exact h.fail.elim
 ·exact h.fail.elim
end
section
variable {P:Program} {T:Tab} {slot:Option Nat} {m m':Mem} {x:V}
theorem yu3{α:Type}{i:Int}{k:Nat→Option α}{r:α}(h:zha i k=some r):0≤i∧k i.toNat=some r:=by
 unfold zha at h;obtain⟨hb,h⟩:=xf h;exact⟨of_decide_eq_true hb,h⟩
theorem jx{o:Option V}{d:Nat}{k:Nat→Prog}
  (h:Res slot (yd o d k) m x m'):
  ∃n:Nat,Res slot (k n) m x m'∧((o=none∧n=d)∨(o=some (.int .i64 n))):=by
 cases o with
 |none=>exact⟨d,h,.inl ⟨rfl,rfl⟩⟩
 |some v=>
  obtain⟨p,hp,h1⟩:=h.toP;obtain⟨i,hv,hp1⟩:=zjz hp;obtain⟨h0,hp2⟩:=yu3 hp1;simp only[Option.some.injEq]at hp2;subst hp2;subst hv;exact⟨i.toNat,h1,.inr (by rw[Int.toNat_of_nonneg h0])⟩
def RelO(G:Gh):Option V→Option Value→Prop
 |none,none=>True
 |some v,some y=>Rel G v y
 |_,_=>False
theorem zm6(b:Bool)(z:Nat):∀(n:Nat) (cs:List V),(wy b z n cs).length=n
 |0,_=>rfl
 |n+1,cs=>by simp[wy,zm6 b z n]
theorem ymk{b:Bool}{z:Nat}:∀{n:Nat} {cs:List V},cs.length=n*z→(∀v∈wy b z n cs,zg z v=true)→(b=true∨(z=1∧cs.all isCell=true))→flat (wy b z n cs)=cs
 |0,cs,h,_,_=>by rw[List.length_eq_zero_iff.1 (by omega:cs.length=0)];rfl
 |n+1,cs,h,hE,hb=>by
  have hr:flat (wy b z n (cs.drop z))=cs.drop z:=ymk (by rw[List.length_drop,h,Nat.succ_mul];omega) (fun v hv=>hE v (List.mem_cons_of_mem _ hv)) (by
   rcases hb with h|⟨h,h2⟩
   ·exact .inl h
   ·exact .inr ⟨h,List.all_eq_true.2 fun v hv=>List.all_eq_true.1 h2 v (List.mem_of_mem_drop hv)⟩)
  have h0:=hE _ (List.mem_cons_self ..);unfold wy;rw[vn,hr];cases b with
  |true=>exact List.take_append_drop z cs
  |false=>
   obtain⟨hz,hca⟩:z=1∧cs.all isCell=true:=by
    rcases hb with h|h
    ·cases h
    ·exact h
   subst hz;cases cs with
   |nil=>simp at h
   |cons a r=>
    simp only[List.drop_succ_cons,List.drop_zero]
    have hc:cellsOf a= [a]:=by
     have:=List.all_eq_true.1 hca a (List.mem_cons_self ..);cases a<;>first|rfl|cases this
    rw[hc];rfl
theorem zc7{G:Gh}{lo hi:Option V}{ylo yhi:Option Value}{h l len cap:Nat}(b:Bool)(hlo:RelO G lo ylo)(hhi:RelO G hi yhi)(e1:(hi=none∧h=len)∨hi=some (.int .i64 h))(e2:(lo=none∧l=0)∨lo=some (.int .i64 l))
  (h1:l≤h)(h2:h≤cap)(w:World):(Instr.sliceBounds b len cap ylo yhi none).run P w= .ok (l,h,cap) w:=by
 have c1:(0:Int)≤h∧(h:Int)≤cap:=⟨by omega,by omega⟩;have c2:(0:Int)≤l∧(l:Int)≤h:=⟨by omega,by omega⟩;rcases e1 with⟨rfl,rfl⟩|rfl<;>rcases e2 with⟨rfl,rfl⟩|rfl<;>cases ylo<;>cases yhi<;>simp only[RelO]at hlo hhi
 ·simp[Instr.sliceBounds]
 ·cases hlo;simp[Instr.sliceBounds,Instr.sliceBound,asIntOf,h1,h2]
 ·cases hhi;simp[Instr.sliceBounds,Instr.sliceBound,asIntOf,h1,h2]
 ·cases hlo;cases hhi;simp[Instr.sliceBounds,Instr.sliceBound,asIntOf,h1,h2]
theorem yrq{G:Gh}{lo:Option V}{ylo:Option Value}{h l len cap m:Nat}(b:Bool)(hlo:RelO G lo ylo)(e2:(lo=none∧l=0)∨lo=some (.int .i64 l))
  (h1:l≤h)(h2:h≤m)(h3:m≤cap)(w:World):(Instr.sliceBounds b len cap ylo (some (.int .i64 h)) (some (.int .i64 m))).run P w= .ok (l,h,m) w:=by
 rcases e2 with⟨rfl,rfl⟩|rfl<;>cases ylo<;>simp only[RelO]at hlo
 ·simp[Instr.sliceBounds,Instr.sliceBound,asIntOf,h1,h2,h3]
 ·cases hlo;simp[Instr.sliceBounds,Instr.sliceBound,asIntOf,h1,h2,h3]
theorem yrf(hT:TabOk P T){t:TypeId}{v:V}{lo hi:Option V}{k:V→Prog}(h:Res slot (zba T t v lo hi k) m x m'):
  ∃u,Res slot (k u) m x m'∧∀(G:Gh) (w:World) (y:Value) (ylo yhi:Option Value),Rel G v y→RelO G lo ylo→RelO G hi yhi→HeapRel G T w m.H m.Fz→MRel G T w→∃z,(Instr.sliceAt t y ylo yhi none).run P w= .ok z w∧Rel G u z:=by
 unfold zba at h;split at h
 ·rename_i s ht
  have hu:=hT.string ht;obtain⟨hn,h,e1⟩:=jx h;obtain⟨ln,h,e2⟩:=jx h;obtain⟨hb,h⟩:=h.needP;obtain⟨b1,b2⟩:=of_decide_eq_true hb;refine⟨_,h,fun G w y ylo yhi hy hlo hhi hH hM=> ?_⟩;cases hy with|str bs _ hbs=>
  subst hbs;have hsz:bs.data.toList.length=bs.size:=rfl;rw[hsz]at e1 b2;have hbd:=zc7 (P:=P) (cap:=bs.size) false hlo hhi e1 e2 b1 b2 w;refine⟨.string (bs.extract ln hn),?_,.str _ _ ?_⟩
  ·simp[Instr.sliceAt,run_underlying hu,Instr.slice,hbd]
  ·rw[ByteArray.data_extract,Array.toList_extract,List.extract_eq_take_drop]
   rw[List.take_drop,Nat.add_sub_cancel' b1]
 ·rename_i e nn sz s ht
  have hu:=hT.slice ht;obtain⟨te,hte⟩:=j8 hT ht (by simp) (u:=e) (by simp[TD.subs]);obtain⟨hn,h,e1⟩:=jx h;obtain⟨ln,h,e2⟩:=jx h;obtain⟨hb,h⟩:=h.needP;simp only[Bool.and_eq_true,decide_eq_true_eq]at hb;obtain⟨⟨b1,b2⟩,hz⟩:=hb;refine⟨_,h,fun G w y ylo yhi hy hlo hhi hH hM=> ?_⟩;cases hy with
  |nils sz=>
   simp only[List.length_nil,Nat.le_zero]at b2;subst b2;have:ln=0:=by omega
   subst this;have hbd:=zc7 (P:=P) (len:=0) (cap:=0) true hlo hhi e1 e2 (Nat.le_refl _) (Nat.le_refl _) w;exact⟨.slice none 0 0,by simp[Instr.sliceAt,run_underlying hu,Instr.slice,hbd,hT.size hte],.nils _⟩
  |sle sz a cap=>
   simp only[List.length_nil,Nat.le_zero]at b2;subst b2;have:ln=0:=by omega
   subst this;have hbd:=zc7 (P:=P) (len:=0) (cap:=cap) true hlo hhi e1 e2 (Nat.le_refl _) (Nat.zero_le _) w;by_cases hc0:cap=0
   ·subst hc0
    exact⟨.slice (some a) 0 0,by simp[Instr.sliceAt,run_underlying hu,Instr.slice,hbd,hT.size hte],.sle _ _ _⟩
   ·exact⟨.slice (some (a.add 0)) 0 cap,by simp[Instr.sliceAt,run_underlying hu,Instr.slice,hbd,hT.size hte,hc0],.sle _ _ _⟩
  |sl _ _ b o cap f hcap hp hE hr hv=>
   have hz:sz=T.size e:=Nat.eq_of_beq_eq_true (by simpa using hz);subst hz;have hbd:=zc7 (P:=P) (len:=s.length) (cap:=cap) true hlo hhi e1 e2 b1 (by omega) w;have hl:((s.take hn).drop ln).length=hn- ln:=by simp;omega
   have hcs:∀k u,(flat ((s.take hn).drop ln))[k]? =some u→(flat s)[ln*T.size e+k]? =some u:=by
    intro k u hk;have hE':∀v∈s.take hn,zg (T.size e) v=true:=fun v hv=>hE v (List.mem_of_mem_take hv);rw[zh2 hE',zds hE,List.getElem?_drop,List.getElem?_take]at hk;split at hk
    ·exact hk
    ·cases hk
   have hsub:∀o',(hn≠ln→o'=o+ln*T.size e)→∀cap',hn- ln≤cap'→Rel G (.sl true (T.size e) ((s.take hn).drop ln)) (.slice (some ⟨b,o',none⟩) (hn- ln) cap'):=by
    intro o' ho' cap' hc'
    have:=Rel.sl (G:=G) (T.size e) ((s.take hn).drop ln) b o' cap' (fun k=>f (ln*T.size e+k)) (by rw[hl];exact hc')
     (pureL_iff.2 fun v hv=>pureL_iff.1 hp v (List.mem_of_mem_take (List.mem_of_mem_drop hv))) (fun v hv=>hE v (List.mem_of_mem_take (List.mem_of_mem_drop hv)))
     (fun k u hk=>by
      have:=hr _ u (hcs k u hk)
      have hne:hn≠ln:=by
       rintro rfl;have hnil:(s.take hn).drop hn= []:=List.drop_eq_nil_of_le (by simp;omega);rw[hnil]at hk;simp[flat]at hk
      rw[ho' hne];rw[←this];congr 1;omega) (fun k u hk=>hv _ u (hcs k u hk))
    rw[hl]at this;exact this
   by_cases hc:cap=ln
   ·subst hc
    refine⟨.slice (some ⟨b,o,none⟩) (hn- cap) (cap- cap),by simp[Instr.sliceAt,run_underlying hu,Instr.slice,hbd,hT.size hte],?_⟩;exact hsub o (fun hne=>by omega) _ (by omega)
   ·refine⟨.slice (some ⟨b,o+ln*T.size e,none⟩) (hn- ln) (cap- ln),by simp[Instr.sliceAt,run_underlying hu,Instr.slice,hbd,hT.size hte,hc,Addr.add_lit],?_⟩
    exact hsub _ (fun _=>rfl) _ (by omega)
 ·rename_i e id ht
  have hu:=hT.slice ht;obtain⟨te,hte⟩:=j8 hT ht (by simp) (u:=e) (by simp[TD.subs]);obtain⟨r,hr,h⟩:=h.get;split at h
  ·rename_i b fl ety s
   obtain⟨hn,h,e1⟩:=jx h;obtain⟨ln,h,e2⟩:=jx h;obtain⟨hb,h⟩:=h.needP;simp only[Bool.and_eq_true,decide_eq_true_eq]at hb;obtain⟨⟨b1,b2⟩,hz⟩:=hb;have hz:=Nat.eq_of_beq_eq_true hz;refine⟨_,h,fun G w y ylo yhi hy hlo hhi hH hM=> ?_⟩;obtain⟨g,hg,g1,g2,_⟩:=hH.rows id _ hr;cases hy with|ref _ a n cap hf ha=>
   obtain⟨rfl,rfl,hcap,hroom⟩:=ha g hg;have hcap0:=hcap;rw[g1]at hcap;have hbd:=zc7 (P:=P) (len:=g.len) (cap:=cap) true hlo hhi (by rw[g1];exact e1) e2 b1 (by omega) w
   have hsub:∀o',(cap- ln≠0→o'=ln*g.sz)→Rel G (.sub id ln (hn- ln)) (.slice (some ⟨g.blk,o',none⟩) (hn- ln) (cap- ln)):=fun o' ho'=>
    .sub id ln _ _ (cap- ln) hf (by omega) fun g' hg'=>by
     rw[hg]at hg';cases hg';exact⟨⟨by omega,by omega,by rw[show ln+(cap- ln)=cap by omega];exact hroom⟩,_,rfl,rfl,rfl,ho'⟩
   by_cases hc:cap=ln
   ·subst hc
    refine⟨.slice (some ⟨g.blk,0,none⟩) (hn- cap) (cap- cap),by simp[Instr.sliceAt,run_underlying hu,Instr.slice,hbd,hT.size hte],?_⟩;exact hsub 0 (fun hne=>absurd (Nat.sub_self _) hne)
   ·refine⟨.slice (some ⟨g.blk,0+ln*T.size e,none⟩) (hn- ln) (cap- ln),by simp[Instr.sliceAt,run_underlying hu,Instr.slice,hbd,hT.size hte,hc,Addr.add_lit],?_⟩
    exact hsub _ (fun _=>by rw[g2,hz];omega)
  ·exact h.fail.elim
 ·rename_i e id a n ht
  have hu:=hT.slice ht;obtain⟨te,hte⟩:=j8 hT ht (by simp) (u:=e) (by simp[TD.subs]);obtain⟨r,hr,h⟩:=h.get;split at h
  ·rename_i b fl ety s
   obtain⟨hn,h,e1⟩:=jx h;obtain⟨ln,h,e2⟩:=jx h;obtain⟨hb,h⟩:=h.needP;simp only[Bool.and_eq_true,Bool.or_eq_true,decide_eq_true_eq]at hb;obtain⟨hb12,hz⟩:=hb;have b1:ln≤hn:=by rcases hb12 with h|h<;>exact h.1
   have hz:=Nat.eq_of_beq_eq_true hz;refine⟨_,h,fun G w y ylo yhi hy hlo hhi hH hM=> ?_⟩;obtain⟨g,hg,g1,g2,_⟩:=hH.rows id _ hr;cases hy with|sub _ _ _ ad cap hf hcb ha=>
   obtain⟨⟨hle,hlc,hroom⟩,⟨bb1,o1,s1⟩,rfl,hb1,hs1,ho1⟩:=ha g hg;simp only at hb1 hs1 ho1;subst hb1;subst hs1;have b2:a+hn≤g.len:=by rw[g1];rw[g1]at hle;rcases hb12 with h|h<;>omega
   have hbd:=zc7 (P:=P) (len:=n) (cap:=cap) true hlo hhi e1 e2 b1 (by omega) w
   have hsub:∀o',(cap- ln≠0→o'=(a+ln)*g.sz)→Rel G (.sub id (a+ln) (hn- ln)) (.slice (some ⟨g.blk,o',none⟩) (hn- ln) (cap- ln)):=fun o' ho'=>
    .sub id _ _ _ (cap- ln) hf (by omega) fun g' hg'=>by
     rw[hg]at hg';cases hg';exact⟨⟨by omega,by omega,by rw[show a+ln+(cap- ln)=a+cap by omega];exact hroom⟩,_,rfl,rfl,rfl,ho'⟩
   by_cases hc:cap=ln
   ·subst hc
    refine⟨.slice (some ⟨g.blk,o1,none⟩) (hn- cap) (cap- cap),by simp[Instr.sliceAt,run_underlying hu,Instr.slice,hbd,hT.size hte],?_⟩;exact hsub o1 (fun hne=>absurd (Nat.sub_self _) hne)
   ·refine⟨.slice (some ⟨g.blk,o1+ln*T.size e,none⟩) (hn- ln) (cap- ln),by simp[Instr.sliceAt,run_underlying hu,Instr.slice,hbd,hT.size hte,hc,Addr.add_lit],?_⟩
    exact hsub _ (fun hne=>by rw[ho1 (by omega),g2,hz,Nat.add_mul])
  ·exact h.fail.elim
 ·rename_i n e g ha
  split at h
  ·unfold ze9 at h
   obtain⟨cs,hcs,h⟩:=h.optP;obtain⟨hb,h⟩:=h.needP;simp only[Bool.and_eq_true,Bool.or_eq_true,Bool.not_eq_true']at hb;obtain⟨⟨hl,hone⟩,hz0,hE,hp⟩:=hb;have hl:=Nat.eq_of_beq_eq_true hl;have hE:∀v∈wy (T.isAgg e) (T.size e) n cs,zg (T.size e) v=true:=List.all_eq_true.1 hE;have hfl:=ymk hl hE (by rcases hone with h|h;exact .inl h;exact .inr ⟨Nat.eq_of_beq_eq_true h.1,h.2⟩);refine⟨_,h,fun G w y ylo yhi hy hlo hhi hH hM=> ?_⟩;have hua:=hT.array ha;obtain⟨te,hte⟩:=zc2 (T:=T) (t:=e) (fun h0=>by rw[h0]at hz0;cases hz0);cases hy;cases ylo with
   |some _=>exact hlo.elim
   |none=>
   cases yhi with
   |some _=>exact hhi.elim
   |none=>
   obtain⟨c,hc,hrc,_,_⟩:=hM.glob g cs hcs;refine⟨.slice (some ⟨g,0,none⟩) n n,?_,?_⟩
   ·by_cases hn:n=0
    ·subst hn
     simp[Instr.sliceAt,run_underlying hua,Instr.sliceBounds,hT.size hte,Instr.sureAddr]
    ·simp[Instr.sliceAt,run_underlying hua,Instr.sliceBounds,hT.size hte,Instr.sureAddr,hn,Addr.add_lit]
   ·have:=Rel.slOf (G:=G) (sz:=T.size e) (l:=wy (T.isAgg e) (T.size e) n cs) (b:=g) (o:=0) (cap:=n) (c:=c) (by rw[zm6];exact Nat.le_refl _) hp hE hc fun k u hu=>by
     rw[hfl]at hu;obtain⟨x,hx,hr⟩:=(q9.1 hrc).get hu;exact⟨x,by simpa using hx,hr⟩
    rw[zm6]at this;exact this
  ·exact h.fail.elim
 ·exact h.fail.elim
theorem yrh(hT:TabOk P T){t:TypeId}{v hi mx:V}{lo:Option V}{k:V→Prog}(h:Res slot (zef T t v lo hi mx k) m x m'):
  ∃u,Res slot (k u) m x m'∧∀(G:Gh) (w:World) (y:Value) (ylo:Option Value) (yhi ym:Value),Rel G v y→RelO G lo ylo→Rel G hi yhi→Rel G mx ym→HeapRel G T w m.H m.Fz→MRel G T w→∃z,(Instr.sliceAt t y ylo (some yhi) (some ym)).run P w= .ok z w∧Rel G u z:=by
 unfold zef at h;split at h
 ·rename_i e id ht
  have hu:=hT.slice ht;obtain⟨te,hte⟩:=j8 hT ht (by simp) (u:=e) (by simp[TD.subs]);obtain⟨r,hr,h⟩:=h.get;split at h
  ·rename_i b fl ety s
   obtain⟨mn,h,e0⟩:=jx h;obtain⟨hn,h,e1⟩:=jx h;obtain⟨ln,h,e2⟩:=jx h;obtain⟨hb,h⟩:=h.needP;simp only[Bool.and_eq_true,decide_eq_true_eq]at hb;obtain⟨⟨b1,b2,b3⟩,hz⟩:=hb;refine⟨_,h,fun G w y ylo yhi ym hy hlo hhi hm hH hM=> ?_⟩;obtain⟨g,hg,g1,g2,_⟩:=hH.rows id _ hr;cases hy with|ref _ a n cap hf ha=>
   obtain⟨rfl,rfl,hcap,hroom⟩:=ha g hg
   have e0:mx= .int .i64 mn:=by
    rcases e0 with⟨h,_⟩|h
    ·cases h
    ·exact Option.some.inj h
   have e1:hi= .int .i64 hn:=by
    rcases e1 with⟨h,_⟩|h
    ·cases h
    ·exact Option.some.inj h
   subst e0;subst e1;cases hm;cases hhi;have hbd:=yrq (P:=P) (len:=g.len) (cap:=cap) (m:=mn) true hlo e2 b1 b2 (by omega) w;by_cases hc:mn=ln
   ·subst hc
    exact⟨.slice (some ⟨g.blk,0,none⟩) (hn- mn) (mn- mn),by simp[Instr.sliceAt,run_underlying hu,Instr.slice,hbd,hT.size hte],.undef _⟩
   ·exact⟨.slice (some ⟨g.blk,0+ln*T.size e,none⟩) (hn- ln) (mn- ln),by simp[Instr.sliceAt,run_underlying hu,Instr.slice,hbd,hT.size hte,hc,Addr.add_lit],.undef _⟩
  ·exact h.fail.elim
 ·exact h.fail.elim
section append
variable (w:World)
theorem yl5(need old:Nat)(e:TypeId):need≤grownCap w need old e:=by
 simp[grownCap,Question.cut]
theorem yrs{G:Gh}{t t' ty e:TypeId}{i:TypeInfo}{z:Value}{args:Array TypeId}(ht:P.underlying t=some (.slice e)){d:TypeDesc}(ht':P.underlying t'=some d)(hd:∀k,d≠ .int k)(hi:P.info? e=some i)(hz:i.zero=some z)
  {l:List V}{y:Value}(hs:Src P G w i.size l y)(h0:0<l.length)(hlen:l.length<maxRow)(hby:i.bytes≤4096):
  ∃xs:List Value,LRel G (flat l) xs∧(Builtin.append_ #[t,t'] ty #[.slice none 0 0,y]).run P w=
   .ok (.slice (some ⟨w.heap.size,0,none⟩) l.length (grownCap w l.length 0 e)) (w.drew.alloc (.cells (xs.toArray++Builtin.zeroCells z.cells (grownCap w l.length 0 e- l.length)) e)):=by
 obtain⟨xs,hxs,hf⟩:=hs.first l.length (Nat.le_refl _);rw[List.take_length]at hxs;refine⟨xs,hxs,?_⟩;have hm:maxRow=16777216:=rfl;have hn:l.length≠0:=by omega
 have h63':¬(9223372036854775807<(l.length:Int)):=by omega
 have h48':¬(281474976710656<Builtin.nextslicecap l.length 0*i.bytes):=by
  rw[nextslicecap_zero h0];have:l.length*i.bytes≤16777216*4096:=Nat.mul_le_mul (by omega) hby;omega
 have hff:=hf w.drew rfl;have hno:(match d with| .int _=>true|_=>false)=false:=by cases d<;>first|rfl|exact absurd rfl (hd _)
 simp[Builtin.append_,run_underlying ht,run_underlying ht',hno,sizeOf,typeInfo,zeroValue,hi,hz,hs.len,hn,h63',h48',Question.forced,run_firstCells_none,hff,newRow,grownCap]
theorem yrt{G:Gh}{t t' ty e:TypeId}{i:TypeInfo}{z:Value}(ht:P.underlying t=some (.slice e)){d:TypeDesc}(ht':P.underlying t'=some d)(hd:∀k,d≠ .int k)(hi:P.info? e=some i)(hz:i.zero=some z)
  {b:Addr}{sLen sCap:Nat}{olds:List Value}(hlo:olds.length=sLen*i.size)(holds:∀(j:Nat) v,olds[j]? =some v→w.cell? (b.add j)=some v)
  {l:List V}{y:Value}(hs:Src P G w i.size l y)(hg:sCap<sLen+l.length)(hlen:sLen+l.length<maxRow)(hby:i.bytes≤4096):
  ∃xs:List Value,LRel G (flat l) xs∧(Builtin.append_ #[t,t'] ty #[.slice (some b) sLen sCap,y]).run P w=
   .ok (.slice (some ⟨w.heap.size,0,none⟩) (sLen+l.length) (grownCap w (sLen+l.length) sCap e))
    (w.drew.alloc (.cells (olds.toArray++xs.toArray++Builtin.zeroCells z.cells (grownCap w (sLen+l.length) sCap e- (sLen+l.length))) e)):=by
 obtain⟨xs,hxs,hf⟩:=hs.first l.length (Nat.le_refl _);rw[List.take_length]at hxs;refine⟨xs,hxs,?_⟩;have hm:maxRow=16777216:=rfl;have hn:¬(sLen+l.length≤sCap):=by omega
 have h63':¬(9223372036854775807<((sLen:Int)+(l.length:Int))):=by omega
 have h48':¬(281474976710656<Builtin.nextslicecap (sLen+l.length) sCap*i.bytes):=by
  have:=nextslicecap_le (need:=sLen+l.length) (old:=sCap) (by omega);have h2:Builtin.nextslicecap (sLen+l.length) sCap*i.bytes≤(2*16777216)*4096:=Nat.mul_le_mul (by omega) hby;omega
 have hff:=hf w.drew rfl;have hfo:=run_firstCells_some (P:=P) w.drew i.size sLen b sLen sCap olds hlo (by simpa using holds);have hno:(match d with| .int _=>true|_=>false)=false:=by cases d<;>first|rfl|exact absurd rfl (hd _)
 simp[Builtin.append_,run_underlying ht,run_underlying ht',hno,sizeOf,typeInfo,zeroValue,hi,hz,hs.len,hn,h63',h48',Question.forced,hff,hfo,newRow,grownCap];congr 2;apply Array.ext';simp[List.append_assoc]
theorem yrr{G:Gh}{t t' ty e:TypeId}{i:TypeInfo}(ht:P.underlying t=some (.slice e)){d:TypeDesc}(ht':P.underlying t'=some d)(hd:∀k,d≠ .int k)(hi:P.info? e=some i)
  {g sLen sCap:Nat}{cur:Array Value}{ce:TypeId}(hg:w.heap[g]? =some (.cells cur ce (0,0)))
  {l:List V}{y:Value}(hs:Src P G w i.size l y)(hroom:sLen+l.length≤sCap)(hfit:(sLen+l.length)*i.size≤cur.size):
  ∃xs:List Value,LRel G (flat l) xs∧(Builtin.append_ #[t,t'] ty #[.slice (some ⟨g,0,none⟩) sLen sCap,y]).run P w=
   .ok (.slice (some ⟨g,0,none⟩) (sLen+l.length) sCap) (w.setRow g (cur.toList.take (sLen*i.size)++xs++cur.toList.drop (sLen*i.size+xs.length)).toArray):=by
 obtain⟨xs,hxs,hf⟩:=hs.first l.length (Nat.le_refl _);rw[List.take_length]at hxs;refine⟨xs,hxs,?_⟩;have hxl:xs.length=l.length*i.size:=by rw[hxs.1,vx hs.el]
 have h1:∀v∈xs,v.oneCell'=true:=by
  intro v hv;obtain⟨j,hj,rfl⟩:=List.mem_iff_getElem.1 hv;have hj':j<(flat l).length:=by rw[←hxs.1];exact hj
  refine(hxs.2 j _ _ (List.getElem?_eq_getElem hj') (List.getElem?_eq_getElem hj)).oneCell ?_;obtain⟨u,hu,hu'⟩:=List.mem_flatMap.1 (List.getElem_mem hj');exact(qo (hs.el u hu)).2 _ hu'
 have hst:=run_storeCells_at P g (sLen*i.size) ce xs 0 cur w hg (by rw[hxl,Nat.add_zero,←Nat.add_mul];exact hfit) h1;simp only[Nat.add_zero]at hst;have hff:=hf w rfl;have hno:(match d with| .int _=>true|_=>false)=false:=by cases d<;>first|rfl|exact absurd rfl (hd _)
 simp[Builtin.append_,run_underlying ht,run_underlying ht',hno,sizeOf,typeInfo,hi,hs.len,hroom,hff,Addr.add_lit,hst]
end append
end
section
variable {P:Program} {T:Tab} {slot:Option Nat} {m m':Mem} {x:V}
theorem yny{G:Gh}{us vs:List V}{xs:List Value}{c c':Array Value}(h:CellsRel G us c 0)(hx:LRel G vs xs)(h1:∀k,k<us.length→c'[k]? =c[k]?)(h2:∀(k:Nat) y,xs[k]? =some y→c'[us.length+k]? =some y):
  CellsRel G (us++vs) c' 0:=by
 intro k u hu;by_cases hk:k<us.length
 ·rw[List.getElem?_append_left hk]at hu
  obtain⟨y,hy,hr⟩:=h k u hu;exact⟨y,by rw[Nat.zero_add,h1 k hk];simpa using hy,hr⟩
 ·rw[List.getElem?_append_right (by omega)]at hu
  obtain⟨y,hy,hr⟩:=hx.get hu;have:=h2 _ y hy;exact⟨y,by rw[←this];congr 1;omega,hr⟩
theorem zkh{e:TypeId}(hT:TabOk P T)(h:T.size e≠0)(hz:zg (T.size e) (T.zero e)=true):
  ∃(inf:TypeInfo) (z:Value),P.info? e=some inf∧inf.size=T.size e∧inf.bytes=T.bytes e∧inf.zero=some z∧z.cells.size=T.size e∧∀G,Rel G (T.zero e) z:=by
 obtain⟨i,hi⟩:=zc2 h;obtain⟨inf,d,h1,h2,h3,h4,h5,z,h6,h7⟩:=hT.get hi;have hr:∀G,Rel G (T.zero e) z:=fun G=>by simp only[Tab.zero,hi,h7];exact zf7 G z
 refine⟨inf,z,h1,by simp[Tab.size,hi,h4],by simp[Tab.bytes,hi,h5],h6,?_,hr⟩;exact((hr ⟨fun _=>none,fun _=> .fresh⟩).el hz).1
theorem overwrite{G:Gh}{w:World}{id a sz:Nat}{b fl fl':Bool}{ety:TypeId}{l zs:List V}{xs:List Value}{g:RG}(hH:HeapRel G T w m.H m.Fz)(hM:MRel G T w)(hr:m.H[id]? =some (.cells b fl ety l))(hz:m.Fz.testBit id=false)
  (hg:G.R id= .live g)(hsz:g.sz=sz)(hE:∀v∈zs,zg sz v=true)(hx:LRel G (flat zs) xs)(hle:a+zs.length≤l.length)(hfl:fl'=true→fl=true∧pureL zs=true):
  ∃w',(storeCells ⟨g.blk,a*sz,none⟩ xs).run P w= .ok () w'∧(xs= []→w'=w)∧Step G w G w'∧HeapRel G T w' (m.H.set id (.cells b fl' ety (l.take a++(zs++l.drop (a+zs.length))))) m.Fz∧MRel G T w':=by
 obtain⟨g',hg',h1,h2,h3,h4,h5,c,e,hc,hs,hcs,hz1,hz2⟩:=hH.rows id _ hr;rw[hg]at hg';cases hg';subst hsz;have hMn:=hz2 hz;have hxl:xs.length=zs.length*g.sz:=by rw[hx.1,vx hE]
 have hfl0:(flat l).length=l.length*g.sz:=vx h4;have hc0:l.length*g.sz≤c.size:=by rw[hs,←h1];exact h3
 have hle2:a*g.sz+zs.length*g.sz≤l.length*g.sz:=by rw[←Nat.add_mul];exact Nat.mul_le_mul_right _ hle
 have h1c:∀v∈xs,v.oneCell'=true:=by
  intro v hv;obtain⟨j,hj,rfl⟩:=List.mem_iff_getElem.1 hv;have hj':j<(flat zs).length:=by rw[←hx.1];exact hj
  refine(hx.2 j _ _ (List.getElem?_eq_getElem hj') (List.getElem?_eq_getElem hj)).oneCell ?_;obtain⟨u,hu,hu'⟩:=List.mem_flatMap.1 (List.getElem_mem hj');exact(qo (hE u hu)).2 _ hu'
 have hst:=run_storeCells_at P g.blk (a*g.sz) e xs 0 c w hc (by rw[hxl];omega) h1c;simp only[Nat.add_zero]at hst;have hlen:(l.take a++(zs++l.drop (a+zs.length))).length=l.length:=by simp;omega
 refine⟨_,hst,fun he=> ?_,?_⟩
 ·subst he
  simp only[List.append_nil,List.length_nil,Nat.add_zero,List.take_append_drop,Array.toArray_toList];exact setRow_self w g.blk c e (0,0) hc
 ·refine heap_set hH hM hr hg hMn (fun b hb=>setRow_other w g.blk b _ hb) (by simp) ?_
  refine⟨g,hg,by rw[hlen];exact h1,h2,h3,fun u hu=> ?_,fun hp=> ?_,_,e,setRow_heap w g.blk c _ e _ hc,?_,fun k u hu=> ?_,fun hz'=>(by rw[hz]at hz';cases hz'),fun _=>hMn⟩
  ·rcases List.mem_append.1 hu with hu|hu
   ·exact h4 u (List.mem_of_mem_take hu)
   ·rcases List.mem_append.1 hu with hu|hu
    ·exact hE u hu
    ·exact h4 u (List.mem_of_mem_drop hu)
  ·obtain⟨p1,p2⟩:=hfl hp
   refine pureL_iff.2 fun u hu=> ?_;rcases List.mem_append.1 hu with hu|hu
   ·exact pureL_iff.1 (h5 p1) u (List.mem_of_mem_take hu)
   ·rcases List.mem_append.1 hu with hu|hu
    ·exact pureL_iff.1 p2 u hu
    ·exact pureL_iff.1 (h5 p1) u (List.mem_of_mem_drop hu)
  ·simp only[List.size_toArray,List.length_append,List.length_take,List.length_drop,Array.length_toList,hxl]
   omega
  ·have key:flat (l.take a++(zs++l.drop (a+zs.length)))=xl (flat l) (a*g.sz) (flat zs):=by
    rw[zfc,zfc,zds h4,zh2 h4];unfold xl;rw[vx hE,Nat.add_mul]
   rw[key]at hu;have:=ynw (c:=c) (o:=a*g.sz) (xs:=xs) (fun k u hu=>by obtain⟨x,hx,hr⟩:=hcs k u hu;exact⟨x,by simpa using hx,hr⟩) hx (by rw[vx hE,hfl0];exact hle2) k u hu;simpa using this
theorem xiu(hT:TabOk P T){e:TypeId}{base src:V}{k:V→Prog}(h:Res slot (wh T e base src k) m x m'):
  ∃u m1,Res slot (k u) m1 x m'∧m1.S=m.S∧∀(G:Gh) (w:World) (y1 y2:Value) (t t' ty:TypeId) (d:TypeDesc),P.underlying t=some (.slice e)→P.underlying t'=some d→(∀kd,d≠ .int kd)→
   Rel G base y1→Rel G src y2→HeapRel G T w m.H m.Fz→MRel G T w→
   ∃z w' G',(Builtin.append_ #[t,t'] ty #[y1,y2]).run P w= .ok z w'∧Step G w G' w'∧HeapRel G' T w' m1.H m1.Fz∧MRel G' T w'∧Rel G' u z:=by
 unfold wh at h;obtain⟨xs,ha,hsrc⟩:=zdm (P:=P) h;clear h;obtain⟨hb,h⟩:=ha.needP;clear ha;simp only[Bool.and_eq_true,decide_eq_true_eq]at hb;obtain⟨⟨hby,hs0⟩,hz⟩:=hb;obtain⟨inf,zv,hi,hisz,hiby,hiz,hzs,hzr⟩:=zkh hT hs0 hz;split at h
 ·rename_i sz
  split at h
  ·refine⟨_,m,h,rfl,fun G w y1 y2 t t' ty d ht ht' hd hy1 hy2 hH hM=> ?_⟩
   cases hy1;have hs:=hsrc G w y2 hy2 hH hM;obtain⟨xs,hxs,hf⟩:=hs.first 0 (Nat.zero_le _);have hff:=hf w rfl;have hno:(match d with| .int _=>true|_=>false)=false:=by cases d<;>first|rfl|exact absurd rfl (hd _)
   have hl:=hs.len;simp only[List.length_nil]at hl;refine⟨.slice none 0 0,w,G,?_,.refl G w,hH,hM,.nils _⟩;simp[Builtin.append_,run_underlying ht,run_underlying ht',hno,sizeOf,typeInfo,hi,hl,hisz,hff]
  ·rename_i a r
   obtain⟨hlen,h⟩:=h.needP;have hlen:=of_decide_eq_true hlen;obtain⟨id,m1,hn,h⟩:=h.newP;refine⟨_,m1,h,hn.S,fun G w y1 y2 t t' ty d ht ht' hd hy1 hy2 hH hM=> ?_⟩;cases hy1;have hs:=hsrc G w y2 hy2 hH hM;rw[←hisz]at hs;obtain⟨ys,hys,hrun⟩:=yrs w (ty:=ty) (args:= #[]) ht ht' hd hi hiz hs (by simp) hlen (by rw[hiby];exact hby);have hge:=yl5 w (a::r).length 0 e;have hyl:ys.length=(a::r).length*T.size e:=by rw[hys.1,vx hs.el,hisz]
   have hroom:(ys.toArray++Builtin.zeroCells zv.cells (grownCap w (a::r).length 0 e- (a::r).length)).size=grownCap w (a::r).length 0 e*T.size e:=by
    simp only[Array.size_append,List.size_toArray,size_zeroCells,hzs,hyl,←Nat.add_mul];congr 1;omega
   have hc0:CellsRel G (flat (a::r)) (ys.toArray++Builtin.zeroCells zv.cells (grownCap w (a::r).length 0 e- (a::r).length)) 0:=hys.cells fun k v hv=>by
    have hk:=(List.getElem?_eq_some_iff.1 hv).1;rw[Nat.zero_add,Array.getElem?_append_left (by simpa using hk)];simpa using hv
   obtain⟨g,g1,g2,g3,g4,hS,hH',hM',hR⟩:=zg8 (w:=w) (w':=w.drew.alloc (.cells _ e)) hn hH hM (by rw[←hisz];exact hs.el) (fun hp=>hp) (by rw[hroom];exact Nat.mul_le_mul_right _ hge) hc0 rfl;refine⟨_,_,_,hrun,hS,hH',hM',.ref id _ _ _ (by rw[hR];simp) fun g' hg'=> ?_⟩;rw[hR]at hg';cases hg';exact⟨by rw[g1],g2.symm,hge,by rw[g3,g4,hroom];exact Nat.le_refl _⟩
 ·rename_i id
  replace h:=h.isFz;split at h
  ·exact h.fail.elim
  ·rename_i hzb
   obtain⟨row,hr,ha⟩:=h.get;clear h;split at ha
   ·rename_i fl ety l
    obtain⟨hse,h⟩:=ha.needP;clear ha;have hse:=Nat.eq_of_beq_eq_true hse;split at h
    ·refine⟨_,m,h,rfl,fun G w y1 y2 t t' ty d ht ht' hd hy1 hy2 hH hM=> ?_⟩
     obtain⟨g,hg,h1,h2,h3,h4,h5,c,ce,hc,hcs,hcr,hz1,hz2⟩:=hH.rows id _ hr;have hs:=hsrc G w y2 hy2 hH hM;obtain⟨xs,hxs,hf⟩:=hs.first 0 (Nat.zero_le _);have hff:=hf w rfl;have hno:(match d with| .int _=>true|_=>false)=false:=by cases d<;>first|rfl|exact absurd rfl (hd _)
     have hl:=hs.len;simp only[List.length_nil]at hl;have hxn:xs= []:=List.eq_nil_of_length_eq_zero (by rw[hxs.1];simp[flat]);subst hxn;have hy1':=hy1;cases hy1 with|ref _ a n cap hf ha=>
     obtain⟨rfl,rfl,hcap,_⟩:=ha g hg;refine⟨_,w,G,?_,.refl G w,hH,hM,hy1'⟩;simp[Builtin.append_,run_underlying ht,run_underlying ht',hno,sizeOf,typeInfo,hi,hl,hisz,hff,hcap,storeCells]
    ·rename_i a r
     obtain⟨hlen,h⟩:=h.needP;have hlen:=of_decide_eq_true hlen;rw[List.length_append]at hlen;obtain⟨_,h⟩:=h.set;obtain⟨id',m1,hn,h⟩:=h.newP;refine⟨_,m1,h,hn.S,fun G w y1 y2 t t' ty d ht ht' hd hy1 hy2 hH hM=> ?_⟩;obtain⟨g,hg,h1,h2,h3,h4,h5,c,ce,hc,hcs,hcr,hz1,hz2⟩:=hH.rows id _ hr;have hMn:=hz2 hzb;have hs:=hsrc G w y2 hy2 hH hM;rw[←hisz]at hs;cases hy1 with|ref _ ad n cap hf ha=>
     obtain⟨rfl,rfl,hcap,hcr'⟩:=ha g hg;have hsz:g.sz=T.size e:=h2.trans hse
     have hE:∀v∈l++a::r,zg g.sz v=true:=by
      intro v hv;rcases List.mem_append.1 hv with hv|hv
      ·exact h4 v hv
      ·rw[hsz,←hisz];exact hs.el v hv
     have hfl0:CellsRel G (flat l) c 0:=fun k u hu=>by obtain⟨y,hy,hr⟩:=hcr k u hu;exact⟨y,by simpa using hy,hr⟩
     have hfll:(flat l).length=g.len*T.size e:=by rw[vx h4,h1,hsz]
     have hle0:g.len*T.size e≤c.size:=by rw[hcs,←hsz];exact h3
     have hflp:(fl&&pureL (a::r))=true→pureL (l++a::r)=true:=by
      intro hp;simp only[Bool.and_eq_true]at hp;refine pureL_iff.2 fun v hv=> ?_;rcases List.mem_append.1 hv with hv|hv
      ·exact pureL_iff.1 (h5 hp.1) v hv
      ·exact pureL_iff.1 hp.2 v hv
     by_cases hroom:g.len+(a::r).length≤cap
     ·-- in place
      have hfit:(g.len+(a::r).length)*inf.size≤c.size:=by
       rw[hisz,hcs,←hsz];exact Nat.le_trans (Nat.mul_le_mul_right _ hroom) hcr'
      obtain⟨ys,hys,hrun⟩:=yrr w (ty:=ty) ht ht' hd hi hc hs hroom hfit;rw[hisz]at hrun;have hyl:ys.length=(a::r).length*T.size e:=by rw[hys.1,vx hs.el,hisz]
      rw[hisz,Nat.add_mul]at hfit
      obtain⟨hS,hH',hM',hR⟩:=yly (g':=⟨g.blk,g.len+(a::r).length,g.sz,g.room⟩) (w':=w.setRow g.blk (c.toList.take (g.len*T.size e)++ys++c.toList.drop (g.len*T.size e+ys.length)).toArray) hH hM hr hg hMn hn (.inl rfl)
       (fun b hb hne=>setRow_other w g.blk b _ hne) (by simp) fun hle hMn' hz'=>by
        refine⟨⟨g.blk,g.len+(a::r).length,g.sz,g.room⟩,by simp[Gh.setR],by simp[h1],h2,?_,hE,hflp,_,ce,setRow_heap w g.blk c _ ce _ hc,?_,fun k u hu=> ?_,fun hz''=>(by rw[hz']at hz'';cases hz''),fun _=>hMn'⟩
        ·simp only[Nat.add_mul,hsz];rw[←hcs];exact hfit
        ·simp only[List.size_toArray,List.length_append,List.length_take,List.length_drop,Array.length_toList,hyl]
         rw[←hcs];omega
        ·rw[zfc]at hu
         have:=yny (c':=(c.toList.take (g.len*T.size e)++ys++c.toList.drop (g.len*T.size e+ys.length)).toArray) hfl0 hys (fun k hk=>by
          rw[hfll]at hk;rw[List.getElem?_toArray,List.append_assoc,List.getElem?_append_left (by rw[List.length_take,Array.length_toList];omega),List.getElem?_take,if_pos hk];simp) (fun k y hy=>by
          have hk:=(List.getElem?_eq_some_iff.1 hy).1;have htl:(c.toList.take (g.len*T.size e)).length=g.len*T.size e:=by rw[List.length_take,Array.length_toList];omega
          rw[hfll,List.getElem?_toArray,List.append_assoc,List.getElem?_append_right (by omega),htl,Nat.add_sub_cancel_left,List.getElem?_append_left hk];exact hy) k u hu
         obtain⟨y,hy,hry⟩:=this;exact⟨y,by simpa using hy,hry.mono hle⟩
      refine⟨_,_,_,hrun,hS,hH',hM',.ref id' _ _ cap (by rw[hR];simp) fun g' hg'=> ?_⟩;rw[hR]at hg';cases hg';exact⟨rfl,rfl,hroom,hcr'⟩
     ·-- into a new block
      have hho:∀(j:Nat) v,(c.toList.take (g.len*T.size e))[j]? =some v→w.cell? ((⟨g.blk,0,none⟩:Addr).add j)=some v:=by
       intro j v hv;rw[Addr.add_lit,cell_of_row w _ _ c ce (0,0) hc];rw[List.getElem?_take]at hv;split at hv
       ·simpa using hv
       ·cases hv
      have hol:(c.toList.take (g.len*T.size e)).length=g.len*inf.size:=by rw[List.length_take,Array.length_toList,hisz];omega
      obtain⟨ys,hys,hrun⟩:=yrt w (ty:=ty) (sLen:=g.len) (sCap:=cap) ht ht' hd hi hiz hol hho hs (by omega) (by rw[h1];exact hlen) (by rw[hiby];exact hby);have hge:=yl5 w (g.len+(a::r).length) cap e;have hyl:ys.length=(a::r).length*T.size e:=by rw[hys.1,vx hs.el,hisz]
      rw[hisz]at hol
      have hcsz:((c.toList.take (g.len*T.size e)).toArray++ys.toArray++Builtin.zeroCells zv.cells (grownCap w (g.len+(a::r).length) cap e- (g.len+(a::r).length))).size=grownCap w (g.len+(a::r).length) cap e*T.size e:=by
       simp only[Array.size_append,List.size_toArray,size_zeroCells,hzs,hyl,hol,←Nat.add_mul];congr 1;omega
      obtain⟨hS,hH',hM',hR⟩:=yly (g':=⟨w.heap.size,g.len+(a::r).length,g.sz,grownCap w (g.len+(a::r).length) cap e*T.size e⟩) (w':=w.drew.alloc (.cells ((c.toList.take (g.len*T.size e)).toArray++ys.toArray++Builtin.zeroCells zv.cells (grownCap w (g.len+(a::r).length) cap e- (g.len+(a::r).length))) e)) hH hM hr hg hMn hn (.inr rfl)
       (fun b hb hne=>by show(w.heap.push _)[b]? =w.heap[b]?;rw[Array.getElem?_push,if_neg (Nat.ne_of_lt hb)]) (show w.heap.size≤(w.heap.push _).size by simp) fun hle hMn' hz'=>by
        refine⟨⟨w.heap.size,g.len+(a::r).length,g.sz,grownCap w (g.len+(a::r).length) cap e*T.size e⟩,by simp[Gh.setR],by simp[h1],h2,?_,hE,hflp,_,e,heap_alloc_new w.drew _,hcsz,fun k u hu=> ?_,fun hz''=>(by rw[hz']at hz'';cases hz''),fun _=>hMn'⟩
        ·simp only[hsz];exact Nat.mul_le_mul_right _ hge
        ·rw[zfc]at hu
         have:=yny (c':=(c.toList.take (g.len*T.size e)).toArray++ys.toArray++Builtin.zeroCells zv.cells (grownCap w (g.len+(a::r).length) cap e- (g.len+(a::r).length))) hfl0 hys (fun k hk=>by
          rw[hfll]at hk;rw[Array.append_assoc,Array.getElem?_append_left (by rw[List.size_toArray,hol];exact hk),List.getElem?_toArray,List.getElem?_take,if_pos hk];simp) (fun k y hy=>by
          have hk:=(List.getElem?_eq_some_iff.1 hy).1;rw[hfll,Array.append_assoc,Array.getElem?_append_right (by rw[List.size_toArray,hol];omega),List.size_toArray,hol,Nat.add_sub_cancel_left,Array.getElem?_append_left (by simpa using hk)];simpa using hy) k u hu
         obtain⟨y,hy,hry⟩:=this;exact⟨y,by simpa using hy,hry.mono hle⟩
      refine⟨_,_,_,hrun,hS,hH',hM',.ref id' _ _ _ (by rw[hR];simp) fun g' hg'=> ?_⟩;rw[hR]at hg';cases hg';exact⟨rfl,rfl,hge,by simp only[hsz];exact Nat.le_refl _⟩
   ·exact ha.fail.elim
 ·-- in place,over a part of the row
  rename_i id o a;have h:=h.isFz;split at h
  ·exact h.fail.elim
  ·rename_i hzb
   obtain⟨row,hr,ha⟩:=h.get;clear h;split at ha
   ·rename_i fl ety l
    obtain⟨hse,h⟩:=ha.needP;clear ha;simp only[Bool.and_eq_true,Nat.ble_eq]at hse;obtain⟨hse,hle⟩:=hse;have hse:=Nat.eq_of_beq_eq_true hse;obtain⟨_,h⟩:=h.set;refine⟨_,_,h,rfl,fun G w y1 y2 t t' ty d ht ht' hd hy1 hy2 hH hM=> ?_⟩;obtain⟨g,hg,h1,h2,h3,h4,h5,_⟩:=hH.rows id _ hr;have hs:=hsrc G w y2 hy2 hH hM;rw[←hisz]at hs;obtain⟨ys,hys,hf⟩:=hs.first xs.length (Nat.le_refl _);rw[List.take_length]at hys;have hsz:g.sz=inf.size:=by rw[h2,hse,hisz]
    cases hy1 with|sub _ _ _ ad cap hf0 hcb hsub=>
    obtain⟨⟨hle2,hlc,hroom⟩,⟨b1,o1,s1⟩,rfl,hb1,hs1,ho1⟩:=hsub g hg;simp only at hb1 hs1 ho1;subst hb1;subst hs1;obtain⟨w',hst,hst0,hS,hH',hM'⟩:=overwrite (P:=P) (a:=o+a) (fl':=fl&&pureL xs) (ety:=ety) hH hM hr (hzb) hg hsz (fun v hv=>hs.el v hv) hys hle (fun hp=>by simpa using hp);have hff:=hf w rfl;have hno:(match d with| .int _=>true|_=>false)=false:=by cases d<;>first|rfl|exact absurd rfl (hd _)
    have hrm:a+xs.length≤cap:=by omega
    have hst':(storeCells ((⟨g.blk,o1,none⟩:Addr).add (a*inf.size)) ys).run P w= .ok () w':=by
     by_cases hc:cap=0
     ·have hx0:xs= []:=List.length_eq_zero_iff.1 (by omega)
      have hy0:ys= []:=List.eq_nil_of_length_eq_zero (by rw[hys.1,hx0];simp[flat]);rw[hst0 hy0,hy0];rfl
     ·rw[Addr.add_lit,ho1 hc,hsz]
      rw[Nat.add_mul]at hst;exact hst
    rw[Addr.add_lit]at hst';refine⟨.slice (some ⟨g.blk,o1,none⟩) (a+xs.length) cap,w',G,?_,hS,hH',hM',.sub id o _ _ cap hf0 hrm fun g' hg'=> ?_⟩
    ·simp[Builtin.append_,run_underlying ht,run_underlying ht',hno,sizeOf,typeInfo,hi,hs.len,hrm,hff,Addr.add_lit,hst']
    ·rw[hg]at hg';cases hg'
     exact⟨⟨by omega,hlc,hroom⟩,_,rfl,rfl,rfl,ho1⟩
   ·exact ha.fail.elim
 ·exact h.fail.elim
end
section
variable {P:Program} {T:Tab} {slot:Option Nat} {m m':Mem} {x:V}
theorem yni(hT:TabOk P T){id a n:Nat}{e:TypeId}{ys:List V}{k:Prog}(h:Res slot (zay T id a n e ys k) m x m'):
  ∃m1,Res slot k m1 x m'∧m1.S=m.S∧∀(G:Gh) (w:World),HeapRel G T w m.H m.Fz→MRel G T w→∃g,G.R id= .live g∧∀(y:Value) (o:Nat),a+n≤g.len→(n≠0→o=a*g.sz)→Src P G w (T.size e) ys y→
   ∃xs w',(Builtin.firstCells (T.size e) (min ys.length n) y).run P w= .ok xs w∧(storeCells ⟨g.blk,o,none⟩ xs.toList).run P w= .ok () w'∧Step G w G w'∧HeapRel G T w' m1.H m1.Fz∧MRel G T w':=by
 unfold zay at h;replace h:=h.isFz;split at h
 ·exact h.fail.elim
 ·rename_i hzb
  obtain⟨row,hr,ha⟩:=h.get;clear h;split at ha
  ·rename_i fl ety l
   obtain⟨hse,h⟩:=ha.needP;clear ha;have hse:=Nat.eq_of_beq_eq_true hse;obtain⟨_,h⟩:=h.set;refine⟨_,h,rfl,fun G w hH hM=> ?_⟩;obtain⟨g,hg,h1,h2,_⟩:=hH.rows id _ hr;refine⟨g,hg,fun y o hle ho hs=> ?_⟩;obtain⟨xs,hxs,hf⟩:=hs.first (min ys.length n) (Nat.min_le_left _ _);have hlen:(ys.take n).length=min ys.length n:=by rw[List.length_take,Nat.min_comm]
   have htk:ys.take (min ys.length n)=ys.take n:=by
    rw[←List.take_take,List.take_of_length_le (i:=ys.length) (by simp[Nat.min_le_right])]
   rw[htk]at hxs
   obtain⟨w',hst,hnil,hS,hH',hM'⟩:=overwrite (P:=P) (fl':=fl&&pureL ys) hH hM hr hzb hg (h2.trans hse) (fun v hv=>hs.el v (List.mem_of_mem_take hv)) hxs (a:=a) (by rw[hlen,←h1];omega) (fun hp=>by
    simp only[Bool.and_eq_true]at hp;exact⟨hp.1,pureL_iff.2 fun v hv=>pureL_iff.1 hp.2 v (List.mem_of_mem_take hv)⟩)
   refine⟨xs.toArray,w',hf w rfl,?_,hS,by rw[hlen]at hH';exact hH',hM'⟩;by_cases hn:n=0
   ·have hxn:xs= []:=List.eq_nil_of_length_eq_zero (by rw[hxs.1,hn];simp[flat])
    have hw:=hnil hxn;subst hxn;subst hw;simp[storeCells]
   ·rw[ho hn,←h2.trans hse]at*
    simpa using hst
  ·exact ha.fail.elim
theorem yzu{z:Array Value}{n i q:Nat}{y:Value}(hi:i<n)(hq:z[q]? =some y):(Builtin.zeroCells z n)[i*z.size+q]? =some y:=by
 have hlt:=(Array.getElem?_eq_some_iff.1 hq).1
 have hb:i*z.size+q<n*z.size:=by
  have:(i+1)*z.size≤n*z.size:=Nat.mul_le_mul_right _ hi;rw[Nat.add_mul]at this;omega
 have hm:(i*z.size+q) %z.size=q:=by
  rw[Nat.add_comm,Nat.add_mul_mod_self_right,Nat.mod_eq_of_lt hlt]
 unfold Builtin.zeroCells;rw[Array.getElem?_map,Array.getElem?_range,if_pos hb];simp only[Option.map_some,hm];rw[getElem!_pos z q hlt];exact congrArg some (Array.getElem?_eq_some_iff.1 hq).2
theorem yl7{z:Array Value}{n i q:Nat}{y:Value}(hq:z[q]? =some y)(hb:i*z.size+q<n):(madeCells z n)[i*z.size+q]? =some y:=by
 have hlt:=(Array.getElem?_eq_some_iff.1 hq).1
 have hm:(i*z.size+q) %z.size=q:=by
  rw[Nat.add_comm,Nat.add_mul_mod_self_right,Nat.mod_eq_of_lt hlt]
 unfold madeCells;rw[Array.getElem?_map,Array.getElem?_range,if_pos hb];simp only[Option.map_some,hm];rw[getElem!_pos z q hlt];exact congrArg some (Array.getElem?_eq_some_iff.1 hq).2
theorem yvv{G:Gh}{v:V}{z:Value}(h:Rel G v z)(n:Nat):LRel G (List.replicate n v) (List.replicate n z):=
 ⟨by simp,fun i u y hu hy=>by
  rw[List.getElem?_replicate]at hu hy;split at hu
  ·simp only[Option.some.injEq]at hu;subst hu
   rw[if_pos (by assumption)]at hy;simp only[Option.some.injEq]at hy;subst hy;exact h
  ·cases hu⟩
theorem zn1{G:Gh}{v:V}{z:Value}{sz n:Nat}{c:Array Value}(hr:Rel G v z)(hv:zg sz v=true)(hc:∀i q y,i<n→z.cells[q]? =some y→c[i*sz+q]? =some y):
  CellsRel G (flat (List.replicate n v)) c 0:=by
 refine ymj (n:=sz) (ys:=List.replicate n z) (fun u hu=>by rw[(List.mem_replicate.1 hu).2];exact hv) (yvv hr n) fun i y hy q x hx=> ?_;rw[List.getElem?_replicate]at hy;split at hy
 ·rename_i hi
  simp only[Option.some.injEq]at hy;subst hy;rw[Nat.zero_add];exact hc i q x hi hx
 ·cases hy
theorem xaq(off:Nat):∀(vs:List Value) (j:Nat) (cells:Array Value),off+j+vs.length≤cells.size→
  ((vs.zipIdx j).foldl (fun cs (c,j)=>cs.setIfInBounds (off+j) c) cells).size=cells.size∧
  ∀k,((vs.zipIdx j).foldl (fun cs (c,j)=>cs.setIfInBounds (off+j) c) cells)[k]? =if off+j≤k∧k<off+j+vs.length then vs[k- (off+j)]? else cells[k]? :=by
 intro vs
 induction vs with
 |nil=>intro j cells _;exact⟨rfl,fun k=>by simp;intros;omega⟩
 |cons v vs ih=>
  intro j cells h;simp only[List.length_cons]at h;simp only[List.zipIdx_cons,List.foldl_cons];obtain⟨h1,h2⟩:=ih (j+1) (cells.setIfInBounds (off+j) v) (by simp;omega);refine⟨by rw[h1];simp,fun k=> ?_⟩;rw[h2 k];by_cases hk:off+j=k
  ·subst hk
   rw[if_neg (by omega),if_pos (by simp)];simp[show off+j<cells.size by omega]
  ·by_cases hk2:off+(j+1)≤k∧k<off+(j+1)+vs.length
   ·rw[if_pos hk2,if_pos (by simp;omega),show k- (off+j)=(k- (off+(j+1)))+1 by omega,List.getElem?_cons_succ]
   ·rw[if_neg hk2,if_neg (by simp;omega),Array.getElem?_setIfInBounds_ne hk]
theorem znh(off:Nat)(v cells:Array Value)(h:off+v.size≤cells.size):
  (v.zipIdx.foldl (fun cs (c,j)=>cs.setIfInBounds (off+j) c) cells).size=cells.size∧
  ∀k,(v.zipIdx.foldl (fun cs (c,j)=>cs.setIfInBounds (off+j) c) cells)[k]? =if off≤k∧k<off+v.size then v[k- off]? else cells[k]? :=by
 have:=xaq off v.toList 0 cells (by simpa using h);rw[←Array.foldl_toList,Array.toList_zipIdx];simpa using this
theorem ynx{G:Gh}{us new:List V}{c v:Array Value}{o:Nat}(h:CellsRel G us c 0)(hx:RelL G new v)(ho:o+new.length≤us.length)(hc:us.length≤c.size):
  CellsRel G (xl us o new) (v.zipIdx.foldl (fun cs (c,j)=>cs.setIfInBounds (o+j) c) c) 0:=by
 obtain⟨_,h2⟩:=znh o v c (by rw[hx.1];omega);intro k u hu;rw[getElem?_setCells ho]at hu;rw[Nat.zero_add,h2 k,hx.1];by_cases hk:o≤k∧k<o+new.length
 ·rw[if_pos hk]at hu
  rw[if_pos hk];obtain⟨y,hy,hr⟩:=(q9.1 hx).get hu;exact⟨y,by simpa using hy,hr⟩
 ·rw[if_neg hk]at hu
  rw[if_neg hk];obtain⟨y,hy,hr⟩:=h k u hu;exact⟨y,by simpa using hy,hr⟩
theorem xas{G:Gh}{n:Nat}:∀{parts:List (Nat×V)} {ps:List (Nat×Value)} {l l':List V} {c:Array Value},jo n parts l=some l'→(∀v∈l,zg n v=true)→CellsRel G (flat l) c 0→l.length*n≤c.size→
  ps.map (·.1)=parts.map (·.1)→LRel G (parts.map (·.2)) (ps.map (·.2))→
  ∃c',Instr.fill (fun i=>some (i*n,n)) c ps=some c'∧c'.size=c.size∧CellsRel G (flat l') c' 0∧(∀v∈l',zg n v=true)∧l'.length=l.length∧(pureL l=true→pureL (parts.map (·.2))=true→pureL l'=true):=by
 intro parts
 induction parts with
 |nil=>
  intro ps l l' c h hE hc hs hi hr;simp only[jo,Option.some.injEq]at h;subst h;have:ps= []:=by simpa using hi
  subst this;exact⟨c,rfl,rfl,hc,hE,rfl,fun h _=>h⟩
 |cons p parts ih=>
  obtain⟨i,v⟩:=p;intro ps l l' c h hE hc hs hi hr;simp only[jo]at h;split at h
  ·rename_i hb
   simp only[Bool.and_eq_true]at hb;obtain⟨hv,hlt⟩:=hb;have hlt:i<l.length:=Nat.le_of_ble_eq_true hlt;cases ps with
   |nil=>simp at hi
   |cons q ps=>
    obtain⟨i',y⟩:=q;simp only[List.map_cons,List.cons.injEq]at hi;obtain⟨rfl,hi⟩:=hi;have hy:Rel G v y:=hr.2 0 v y rfl rfl;have hr':LRel G (parts.map (·.2)) (ps.map (·.2)):=by have:=hr.drop 1;simpa using this
    obtain⟨e1,e2,_⟩:=hy.el hv;have hlv:=(qo hv).1
    have hin:i'*n+n≤l.length*n:=by
     have:(i'+1)*n≤l.length*n:=Nat.mul_le_mul_right _ hlt;rw[Nat.add_mul]at this;omega
    have hfl:=vx hE;have hfill:=ynx (o:=i'*n) hc e2 (by rw[hlv,hfl];exact hin) (by rw[hfl];exact hs);rw[←ymi hE hlt hv]at hfill;have hsz:=(znh (i'*n) y.cells c (by rw[e1];omega)).1
    have hE':∀u∈l.set i' v,zg n u=true:=fun u hu=>by
     rcases List.mem_or_eq_of_mem_set hu with hu|rfl
     ·exact hE u hu
     ·exact hv
    obtain⟨c',h1,h2,h3,h4,h5,h6⟩:=ih h hE' hfill (by rw[List.length_set];exact Nat.le_trans hs (Nat.le_of_eq hsz.symm)) hi hr';refine⟨c',?_,h2.trans hsz,h3,h4,by simpa using h5,fun hp1 hp2=>h6 (pureL_iff.2 fun u hu=> ?_) (pureL_iff.2 fun u hu=>pureL_iff.1 hp2 u (List.mem_cons_of_mem _ hu))⟩
    ·simp only[Instr.fill,e1]
     rw[if_neg (by simp;omega)];exact h1
    ·rcases List.mem_or_eq_of_mem_set hu with hu|rfl
     ·exact pureL_iff.1 hp1 u hu
     ·exact pureL_iff.1 hp2 u (by simp)
  ·cases h
theorem xat{G:Gh}{sizes:List (Nat×Nat)}{place:Nat→Option (Nat×Nat)}(hp:∀i p,sizes[i]? =some p→place i=some p):∀{parts:List (Nat×V)} {ps:List (Nat×Value)} {cs cs':List V} {c:Array Value},zaf sizes parts cs=some cs'→CellsRel G cs c 0→cs.length=c.size→
  ps.map (·.1)=parts.map (·.1)→LRel G (parts.map (·.2)) (ps.map (·.2))→∃c',Instr.fill place c ps=some c'∧c'.size=c.size∧CellsRel G cs' c' 0∧cs'.length=cs.length:=by
 intro parts
 induction parts with
 |nil=>
  intro ps cs cs' c h hc hs hi hr;simp only[zaf,Option.some.injEq]at h;subst h;have:ps= []:=by simpa using hi
  subst this;exact⟨c,rfl,rfl,hc,rfl⟩
 |cons p parts ih=>
  obtain⟨i,v⟩:=p;intro ps cs cs' c h hc hs hi hr;simp only[zaf]at h;split at h
  ·rename_i o n hon
   split at h
   ·rename_i hb
    simp only[Bool.and_eq_true]at hb;obtain⟨hv,hle⟩:=hb;have hle:=Nat.le_of_ble_eq_true hle;cases ps with
    |nil=>simp at hi
    |cons q ps=>
     obtain⟨i',y⟩:=q;simp only[List.map_cons,List.cons.injEq]at hi;obtain⟨rfl,hi⟩:=hi;have hy:Rel G v y:=hr.2 0 v y rfl rfl;have hr':LRel G (parts.map (·.2)) (ps.map (·.2)):=by have:=hr.drop 1;simpa using this
     obtain⟨e1,e2,_⟩:=hy.el hv;have hlv:=(qo hv).1;have hfill:=ynx (o:=o) hc e2 (by rw[hlv];exact hle) (by omega);have hsz:=(znh o y.cells c (by rw[e1];omega)).1;obtain⟨c',h1,h2,h3,h4⟩:=ih h hfill (by rw[zgj (by rw[hlv];exact hle),hsz];exact hs) hi hr';refine⟨c',?_,h2.trans hsz,h3,by rw[h4,zgj (by rw[hlv];exact hle)]⟩;simp only[Instr.fill,hp _ _ hon,e1];rw[if_neg (by simp;omega)];exact h1
   ·cases h
  ·cases h
end
section
variable {P:Program} {T:Tab} {slot:Option Nat} {m m':Mem} {x:V}
theorem yk0(hT:TabOk P T){G:Gh}{cs:List V}{a:Array Value}{t:TypeId}{o:Nat}{p:V}(h:LRel G cs a.toList)(hti:∃i,T.ti t=some i)
  (hp:(match T.isAgg t with|true=>some (V.agg ((cs.drop o).take (T.size t)))|false=>cs[o]?)=some p)(w:World):∃z,(part t a o).run P w= .ok z w∧Rel G p z:=by
 obtain⟨j,hj⟩:=hti;cases hA:T.isAgg t with
 |true=>
  rw[hA]at hp;simp only[Option.some.injEq]at hp;subst hp;exact⟨.agg ((a.toList.drop o).take (T.size t)).toArray,zc6 hT hj a o w _ (by rw[hA]),((h.drop _).take _).toAgg (a:=((a.toList.drop o).take (T.size t)).toArray)⟩
 |false=>
  rw[hA]at hp;simp only at hp;obtain⟨z,hz,hr⟩:=h.get hp;exact⟨z,zc6 hT hj a o w z (by rw[hA];simpa using hz),hr⟩
theorem zfn(hT:TabOk P T):∀(n:Nat) (t:TypeId) (v:V),keyOk T n t v=true→∀(G:Gh) (y:Value) (w:World) (b:Bool) (d:Nat),n≤d→Rel G v y→(Instr.checkKey b d t y).run P w= .ok () w:=by
 intro n
 induction n with
 |zero=>intro t v h;simp[keyOk]at h
 |succ n ih=>
  intro t v h G y w b d hd hy;obtain⟨d,rfl⟩:∃d',d=d'+1:=⟨d- 1,by omega⟩;simp only[keyOk]at h;split at h
  ·rename_i kd _ _ hd'
   cases hy;simp[Instr.checkKey,run_underlying (hT.intT hd')]
  ·rename_i hd'
   cases hy;simp[Instr.checkKey,run_underlying (hT.string hd')]
  ·rename_i hd'
   cases hy;obtain⟨u,h1,h2⟩:=hT.under hd' (by simp);cases zno h2;simp[Instr.checkKey,run_underlying h1]
  ·rename_i fs cs hd'
   obtain⟨a,rfl,hA⟩:=hy.agg';obtain⟨gs,h1,rfl⟩:=hT.struct hd';obtain⟨ti,hti,_⟩:=zee (T:=T) (t:=t) (by rw[hd'];simp);have hsub:∀f∈gs.toList,∃j,T.ti f.type=some j:=fun f hf=>hT.subT hti (by rw[hd'];simp[TD.subs];exact⟨f,by simpa using hf,rfl⟩);simp only[Instr.checkKey,Sem.run_bind,run_underlying h1,Result.andThen_ok];rw[←Array.forIn_toList]
   revert hsub h
   generalize gs.toList=fl;intro h hsub;clear h1 hd'
   induction fl with
   |nil=>simp
   |cons f fl ihf=>
    simp only[List.map_cons,zmz,Bool.and_eq_true]at h;obtain⟨hk,hr⟩:=h;have rest:=ihf hr fun g hg=>hsub g (List.mem_cons_of_mem _ hg);rw[List.forIn_cons];split at hk
    ·rename_i p hp
     obtain⟨z,hz,hrz⟩:=yk0 hT hA (hsub f (List.mem_cons_self ..)) hp w;have e1:=ih _ _ hk G z w b d (by omega) hrz;by_cases hn:f.name= "_"
     ·simp[hn];simpa using rest
     ·simp[hn,hz,e1];simpa using rest
    ·cases hk
  ·cases h
theorem zpl{G:Gh}{a b:V}{y z:Value}(h:zc4 a b=true)(ha:Rel G a y)(hb:Rel G b z)(n:Nat):Instr.sameBits n y z=true:=by
 cases a<;>cases b<;>simp only[zc4,Bool.and_eq_true,decide_eq_true_eq,beq_iff_eq]at h<;>try (cases h;done)
 ·subst h;cases ha;cases hb;simp[Instr.sameBits]
 ·obtain⟨rfl,rfl⟩:=h;cases ha;cases hb;simp[Instr.sameBits]
 ·subst h
  cases ha with|str s1 l1 e1=>
  cases hb with|str s2 l2 e2=>
  simp[Instr.sameBits,zob,e1,e2]
theorem yrn{G:Gh}{a b:V}{y z:Value}(h:zc5 a b=true)(ha:Rel G a y)(hb:Rel G b z):Instr.sameBits 10000 y z=true:=by
 unfold zc5 at h;split at h
 ·rename_i cs ds
  obtain⟨u,rfl,hu⟩:=ha.agg';obtain⟨v,rfl,hv⟩:=hb.agg'
  have hl:∀(cs ds:List V),zc3 cs ds=true→cs.length=ds.length∧∀(i:Nat) c d,cs[i]? =some c→ds[i]? =some d→zc4 c d=true:=by
   intro cs
   induction cs with
   |nil=>intro ds h;cases ds with|nil=>exact⟨rfl,fun i c d hc=>by simp at hc⟩|cons d ds=>simp[zc3]at h
   |cons c cs ih=>
    intro ds h;cases ds with
    |nil=>simp[zc3]at h
    |cons d ds=>
     simp only[zc3,Bool.and_eq_true]at h;obtain⟨h1,h2⟩:=ih ds h.2;refine⟨by simp[h1],fun i c' d' hc hd=> ?_⟩;cases i with
     |zero=>simp at hc hd;subst hc;subst hd;exact h.1
     |succ i=>exact h2 i c' d' (by simpa using hc) (by simpa using hd)
  obtain⟨hlen,hs⟩:=hl cs ds h;have h1:=hu.1;have h2:=hv.1;show Instr.sameBits (9999+1) (.agg u) (.agg v)=true;simp only[Instr.sameBits,Bool.and_eq_true,beq_iff_eq,List.all_eq_true];refine⟨by have:u.toList.length=v.toList.length:=(by rw[h1,h2,hlen]);simpa using this,fun p hp=> ?_⟩
  ·obtain⟨i,hi,rfl⟩:=List.mem_iff_getElem.1 hp
   simp only[List.getElem_zip];have hiu:i<u.toList.length:=by simp at hi⊢;omega
   have hiv:i<v.toList.length:=by simp at hi⊢;omega
   exact zpl (hs i cs[i] ds[i] (List.getElem?_eq_getElem (by omega)) (List.getElem?_eq_getElem (by omega))) (hu.2 i _ _ (List.getElem?_eq_getElem (by omega)) (List.getElem?_eq_getElem hiu))
    (hv.2 i _ _ (List.getElem?_eq_getElem (by omega)) (List.getElem?_eq_getElem hiv)) _
 ·exact zpl h ha hb _
def EntRel(G:Gh)(es:List (V×V))(ents:List MapEntry):Prop:=ents.length=es.length∧∀(i:Nat) p e,es[i]? =some p→ents[i]? =some e→Rel G p.1 e.key∧Rel G p.2 e.val
theorem EntRel.cons{G:Gh}{p:V×V}{es:List (V×V)}{ents:List MapEntry}(h:EntRel G (p::es) ents):∃e r,ents=e::r∧Rel G p.1 e.key∧Rel G p.2 e.val∧EntRel G es r:=by
 cases ents with
 |nil=>simp[EntRel]at h
 |cons e r=>
  refine⟨e,r,rfl,(h.2 0 p e rfl rfl).1,(h.2 0 p e rfl rfl).2,by simpa using h.1,fun i q f hq hf=>h.2 (i+1) q f (by simpa using hq) (by simpa using hf)⟩
def place(eq:V→V→Option Bool):List (V×V)→V→Option (Option Nat)
 | [],_=>some none
 |(a,_)::r,x=>match eq x a with
  |some true=>some (some 0)
  |some false=>(match place eq r x with|some (some i)=>some (some (i+1))|some none=>some none|none=>none)
  |none=>none
theorem yvl{eq:V→V→Option Bool}{x:V}:∀{es:List (V×V)} {o:Option V},mapGet eq es x=some o→(o=none∧place eq es x=some none)∨∃i p,place eq es x=some (some i)∧es[i]? =some p∧o=some p.2:=by
 intro es
 induction es with
 |nil=>intro o h;simp only[mapGet,Option.some.injEq]at h;exact .inl ⟨h.symm,rfl⟩
 |cons p es ih=>
  obtain⟨a,b⟩:=p;intro o h;simp only[mapGet]at h;split at h
  ·rename_i he;simp only[Option.some.injEq]at h;exact .inr ⟨0,(a,b),by simp[place,he],rfl,h.symm⟩
  ·rename_i he
   rcases ih h with⟨h1,h2⟩|⟨i,p,h1,h2,h3⟩
   ·exact .inl ⟨h1,by simp[place,he,h2]⟩
   ·exact .inr ⟨i+1,p,by simp[place,he,h1],by simpa using h2,h3⟩
  ·cases h
theorem zpk(hT:TabOk P T){n:Nat}{kt:TypeId}{kd:TypeDesc}(hk:P.underlying kt=some kd){a b:V}{r:Bool}(h:eqT T n kt a b=some r){G:Gh}{y z:Value}(ha:Rel G a y)(hb:Rel G b z){r':Bool}(hs:Instr.sameNow kd y z=some r'):r'=r:=by
 cases n with
 |zero=>simp[eqT]at h
 |succ n=>
  simp only[eqT]at h;split at h<;>rename_i hd'
  ·obtain⟨u,h1,h2⟩:=hT.under hd' (by simp)
   rw[hk]at h1;cases h1;cases zno h2;cases ha;cases hb;simp only[Instr.sameNow,Option.some.injEq]at hs h;rw[←hs,←h]
  ·have h1:=hT.intT hd'
   rw[hk]at h1;cases h1;cases ha;cases hb;split at h
   ·rename_i hkk
    simp only[decide_eq_true_eq]at hkk;subst hkk;simp only[Instr.sameNow,if_true,Option.some.injEq]at hs h;rw[←hs,←h]
   ·cases h
  ·obtain⟨u,h1,h2⟩:=hT.under hd' (by simp)
   rw[hk]at h1;cases h1;cases zid h2;cases ha<;>cases hb<;>simp[Instr.sameNow]at hs
  ·obtain⟨u,h1,h2⟩:=hT.under hd' (by simp)
   rw[hk]at h1;cases h1;cases ync h2;cases ha;cases hb;simp[Instr.sameNow]at hs
  ·have h1:=hT.string hd'
   rw[hk]at h1;cases h1;cases ha with|str s1 l1 e1=>
   cases hb with|str s2 l2 e2=>
   simp only[Instr.sameNow,Option.some.injEq]at hs h;rw[←hs,←h,zob,e1,e2]
  all_goals (first|(cases h;done)|(exfalso;cases ha<;>cases hb<;>cases kd<;>simp[Instr.sameNow]at hs;done))
theorem zca(hT:TabOk P T){kt:TypeId}(hk:∃kd,P.underlying kt=some kd){G:Gh}{a:V}{y:Value}(ha:Rel G a y)(w:World):∀{es:List (V×V)} {ents:List MapEntry} {o:Option Nat},place (eqT T kp kt) es a=some o→EntRel G es ents→
  (Instr.findKey kt y ents).run P w= .ok (o.bind fun i=>(ents[i]?).map fun e=>(i,e.val)) w:=by
 obtain⟨kd,hk⟩:=hk
  -- either road gives the place
 have ask:∀(es:List (V×V)) (ents:List MapEntry) (o:Option Nat) (i:Nat),place (eqT T kp kt) es a=some o→EntRel G es ents→(Instr.findAsking kt y ents i).run P w= .ok (o.bind fun j=>(ents[j]?).map fun e=>(i+j,e.val)) w:=by
  intro es
  induction es with
  |nil=>
   intro ents o i h he;have:ents= []:=by simpa[EntRel]using he.1
   subst this;simp only[place,Option.some.injEq]at h;subst h;simp[Instr.findAsking]
  |cons p es ih=>
   obtain⟨b,c⟩:=p;intro ents o i h he;obtain⟨e,r,rfl,hkey,hval,her⟩:=he.cons;simp only[place]at h;split at h
   ·rename_i heq
    simp only[Option.some.injEq]at h;subst h;have e1:=zh5 hT _ _ _ _ _ heq G y e.key w 10000 (by decide) ha hkey;simp[Instr.findAsking,Op.equal,Op.maxDepth,e1]
   ·rename_i heq
    have e1:=zh5 hT _ _ _ _ _ heq G y e.key w 10000 (by decide) ha hkey;split at h
    ·rename_i j hp
     simp only[Option.some.injEq]at h;subst h;have:=ih r (some j) (i+1) hp her;simp[Instr.findAsking,Op.equal,Op.maxDepth,e1,this];cases r[j]? with
     |none=>rfl
     |some e'=>simp;omega
    ·rename_i hp
     simp only[Option.some.injEq]at h;subst h;have:=ih r none (i+1) hp her;simp[Instr.findAsking,Op.equal,Op.maxDepth,e1,this]
    ·cases h
   ·cases h
 have now:∀(es:List (V×V)) (ents:List MapEntry) (o:Option Nat) (i:Nat) (q:Option (Nat×Value)),place (eqT T kp kt) es a=some o→EntRel G es ents→Instr.findNow kd y ents i=some q→q=o.bind fun j=>(ents[j]?).map fun e=>(i+j,e.val):=by
  intro es
  induction es with
  |nil=>
   intro ents o i q h he hf;have:ents= []:=by simpa[EntRel]using he.1
   subst this;simp only[place,Option.some.injEq]at h;subst h;simp only[Instr.findNow,Option.some.injEq]at hf;subst hf;simp
  |cons p es ih=>
   obtain⟨b,c⟩:=p;intro ents o i q h he hf;obtain⟨e,r,rfl,hkey,hval,her⟩:=he.cons;simp only[Instr.findNow]at hf;simp only[place]at h;split at hf
   ·rename_i hs
    simp only[Option.some.injEq]at hf;subst hf;split at h
    ·simp only[Option.some.injEq]at h;subst h;simp
    ·rename_i heq;have:=zpk hT hk heq ha hkey hs;cases this
    ·cases h
   ·rename_i hs
    split at h
    ·rename_i heq;have:=zpk hT hk heq ha hkey hs;cases this
    ·split at h
     ·rename_i j hp
      simp only[Option.some.injEq]at h;subst h;have:=ih r (some j) (i+1) q hp her hf;rw[this];simp;cases r[j]? with
      |none=>rfl
      |some e'=>simp;omega
     ·rename_i hp
      simp only[Option.some.injEq]at h;subst h;have:=ih r none (i+1) q hp her hf;rw[this];rfl
     ·cases h
    ·cases h
   ·cases hf
 intro es ents o h he;unfold Instr.findKey;simp only[Sem.run_bind,run_underlying hk,Result.andThen_ok];cases hf:Instr.findNow kd y ents 0 with
 |some q=>
  have:=now es ents o 0 q h he hf;subst this;simp
 |none=>
  have:=ask es ents o 0 h he;simpa using this
end
section
variable {P:Program} {T:Tab} {slot:Option Nat} {m m':Mem} {x:V}
structure Does (P:Program) (T:Tab) (m1:Mem) (v:V) (G:Gh) (w:World) (s:Sem Value):Prop where
 ex:∃y w' G',s.run P w= .ok y w'∧Step G w G' w'∧HeapRel G' T w' m1.H m1.Fz∧MRel G' T w'∧Rel G' v y
theorem Does.still{G:Gh}{w:World}{s:Sem Value}{v:V}{y:Value}(hH:HeapRel G T w m.H m.Fz)(hM:MRel G T w)(hs:s.run P w= .ok y w)(hr:Rel G v y):Does P T m v G w s:=⟨y,w,G,hs,.refl G w,hH,hM,hr⟩
theorem xav(hT:TabOk P T){α:Type}{t:TypeId}{v:V}{f:Nat}{k:V→Option α}{r:α}(h:zcb T t v f k=some r):
  ∃u,k u=some r∧∀(G:Gh) (w:World) (y:Value),Rel G v y→∃z,(Instr.fieldAt t y f).run P w= .ok z w∧Rel G u z:=by
 unfold zcb at h;split at h
 ·rename_i fs hd
  split at h
  ·rename_i o ft hf
   have hz:=(xf h).1;replace h:=(xf h).2;obtain⟨gs,h1,rfl⟩:=hT.struct hd;rw[List.getElem?_map]at hf;cases hg:gs.toList[f]? with
   |none=>rw[hg]at hf;cases hf
   |some fd=>
    rw[hg]at hf;simp only[Option.map_some,Option.some.injEq,Prod.mk.injEq]at hf;obtain⟨rfl,rfl⟩:=hf;have hg':gs[f]? =some fd:=by simpa using hg
    have hz':T.size fd.type≠0:=fun e=>by rw[e]at hz;cases hz
    obtain⟨ti,hti⟩:=zc2 (T:=T) (t:=fd.type) hz'
    have run:∀(w:World) (b o:Nat),(Instr.fieldAt t (.pointer (some ⟨b,o,none⟩)) f).run P w= .ok (.pointer (some ⟨b,o+fd.offset,none⟩)) w:=by
     intro w b o;simp[Instr.fieldAt,run_underlying h1,hg',Instr.sureAddr,fieldPlace,hT.size hti,hz',Addr.add_lit]
    split at h
    ·rename_i id i j
     refine⟨_,h,fun G w y hy=> ?_⟩;cases hy with|ptr _ _ _ b0 o0 hf ha=>
     exact⟨_,run w b0 o0,.ptr id i _ _ _ hf fun g hg=>by obtain⟨e1,e2⟩:=ha g hg;exact⟨e1,by omega⟩⟩
    ·rename_i sz l i j
     refine⟨_,h,fun G w y hy=> ?_⟩;cases hy with|pp _ _ _ _ b o fv hp hE hr hv=>
     refine⟨_,run w _ _,?_⟩;have:=Rel.pp (G:=G) sz l i (j+fd.offset) b o fv hp hE hr hv;rw[show o+(i*sz+j)+fd.offset=o+(i*sz+(j+fd.offset)) by omega];exact this
    ·rename_i g j
     refine⟨_,h,fun G w y hy=> ?_⟩;cases hy;exact⟨_,run w _ _,.glob g _⟩
    ·cases h
  ·cases h
 ·cases h
theorem zke(hT:TabOk P T){t:TypeId}{i:TI}(hi:T.ti t=some i):∃(inf:TypeInfo) (z:Value),P.info? t=some inf∧inf.zero=some z∧inf.size=T.size t∧T.zero t=q7 z:=by
 obtain⟨inf,d,h1,h2,h3,h4,h5,z,h6,h7⟩:=hT.get hi;exact⟨inf,z,h1,h6,by simp[Tab.size,hi,h4],by simp only[Tab.zero,hi,h7]⟩
theorem xi1(G:Gh)(z:Value):CellsRel G (cellsOf (q7 z)) z.cells 0∧(cellsOf (q7 z)).length=z.cells.size:=by
 by_cases hz:∃a,z= .agg a
 ·obtain⟨a,rfl⟩:=hz
  obtain⟨b,hb,hA⟩:=(zf7 G (.agg a)).agg';cases hb;exact⟨hA.cells fun k x hx=>by simpa[Value.cells]using hx,by have:=hA.1;simpa[Value.cells,q7,cellsOf]using this.symm⟩
 ·have h1:q7 z=za3 z:=by cases z<;>first|rfl|exact absurd ⟨_,rfl⟩ hz
  have h2:z.cells= #[z]:=by cases z<;>first|rfl|exact absurd ⟨_,rfl⟩ hz
  have h3:cellsOf (za3 z)= [za3 z]:=by unfold za3;split<;>rfl
  rw[h1,h2,h3];refine⟨fun k u hu=> ?_,rfl⟩;cases k with
  |zero=>simp at hu;subst hu;exact⟨z,rfl,zoy G z⟩
  |succ k=>simp at hu
theorem xid(hT:TabOk P T){α:Type}{t:TypeId}{parts:List (Nat×V)}{k:V→Option α}{r:α}(h:zd2 T t parts k=some r):
  ∃u,k u=some r∧∀(G:Gh) (w:World) (ps:Array (Nat×Value)),ps.toList.map (·.1)=parts.map (·.1)→LRel G (parts.map (·.2)) (ps.toList.map (·.2))→∃z,(Instr.build t ps).run P w= .ok z w∧Rel G u z:=by
  -- the cells of the zero value
 have zc:∀{cs':List V} {sizes:List (Nat×Nat)} {place:Nat→Option (Nat×Nat)} (z:Value) (hp:∀i p,sizes[i]? =some p→place i=some p),zaf sizes parts (cellsOf (q7 z))=some cs'→
   ∀(G:Gh) (ps:List (Nat×Value)),ps.map (·.1)=parts.map (·.1)→LRel G (parts.map (·.2)) (ps.map (·.2))→∃c',Instr.fill place z.cells ps=some c'∧Rel G (.agg cs') (.agg c'):=by
  intro cs' sizes place z hp hf G ps h1 h2;obtain⟨hc,hl⟩:=xi1 G z;obtain⟨c',e1,e2,e3,e4⟩:=xat (G:=G) hp hf hc hl h1 h2;refine⟨c',e1,.agg _ _ (by rw[e2,e4,hl]) fun i v x hv hx=> ?_⟩;obtain⟨y,hy,hr⟩:=e3 i v hv;rw[Nat.zero_add,hx]at hy;cases hy;exact hr
 unfold zd2 at h;split at h
 ·rename_i fs hd
  obtain⟨cs',hf,h⟩:=zas h;refine⟨_,h,fun G w ps h1 h2=> ?_⟩;obtain⟨gs,hu,rfl⟩:=hT.struct hd;obtain⟨i,hi,_⟩:=zee (T:=T) (t:=t) (by rw[hd];simp);obtain⟨inf,z,hz1,hz2,hz3,hz4⟩:=zke hT hi;have hsub:∀f∈gs.toList,∃j,T.ti f.type=some j:=fun f hf=>hT.subT hi (by rw[hd];simp[TD.subs];exact⟨f,by simpa using hf,rfl⟩)
  have hplaces:gs.toList.mapM (fun f=>(P.info? f.type).map fun i=>(f.offset,i.size))=some (gs.toList.map fun f=>(f.offset,T.size f.type)):=by
   have gen:∀(l:List Field),(∀f∈l,(P.info? f.type).map (fun i=>(f.offset,i.size))=some (f.offset,T.size f.type))→l.mapM (fun f=>(P.info? f.type).map fun i=>(f.offset,i.size))=some (l.map fun f=>(f.offset,T.size f.type)):=by
    intro l
    induction l with
    |nil=>intro _;rfl
    |cons f l ih=>intro h;simp[List.mapM_cons,h f (List.mem_cons_self ..),ih fun g hg=>h g (List.mem_cons_of_mem _ hg)]
   refine gen gs.toList fun f hf=> ?_;obtain⟨j,hj⟩:=hsub f hf;obtain⟨inf',d',i1,_,_,i4,_⟩:=hT.get hj;simp[i1,i4,Tab.size,hj]
  rw[hz4,List.map_map]at hf;obtain⟨c',e1,e2⟩:=zc (place:=((gs.toList.map fun f=>(f.offset,T.size f.type)).toArray[·]?)) z (fun i p hp=>by rw[List.getElem?_toArray];exact hp) hf G ps.toList h1 h2;refine⟨.agg c',run_build w t ps c' ?_,e2⟩;simp only[Program.built,hz1,hu,hz2,hplaces];exact e1
 ·rename_i n e hd
  obtain⟨cs',hf,h⟩:=zas h;refine⟨_,h,fun G w ps h1 h2=> ?_⟩;have hu:=hT.array hd;obtain⟨i,hi,_⟩:=zee (T:=T) (t:=t) (by rw[hd];simp);obtain⟨inf,z,hz1,hz2,hz3,hz4⟩:=zke hT hi;obtain⟨j,hj⟩:=hT.subT hi (u:=e) (by rw[hd];simp[TD.subs]);obtain⟨inf',d',i1,_,_,i4,_⟩:=hT.get hj;have hsz:inf'.size=T.size e:=by simp[Tab.size,hj,i4]
  rw[hz4]at hf
  obtain⟨c',e1,e2⟩:=zc (place:=fun i=>some (i*T.size e,T.size e)) z (fun i p hp=>by
   rw[List.getElem?_map]at hp;cases hr:(List.range n)[i]? with
   |none=>rw[hr]at hp;cases hp
   |some q=>
    rw[hr]at hp;have:=(List.getElem?_eq_some_iff.1 hr);obtain⟨_,hq⟩:=this;simp at hq;subst hq;simpa using hp) hf G ps.toList h1 h2
  refine⟨.agg c',run_build w t ps c' ?_,e2⟩;simp only[Program.built,hz1,hu,hz2,i1,hsz];exact e1
 ·cases h
end
section
variable {P:Program} {T:Tab} {slot:Option Nat} {m m':Mem} {x:V}
theorem zo1{α β:Type}:∀{is:List α} {vs:List β},vs.length=is.length→(is.zip vs).map (·.1)=is∧(is.zip vs).map (·.2)=vs:=by
 intro is
 induction is with
 |nil=>intro vs h;have:vs= []:=(by simpa using h);subst this;simp
 |cons i is ih=>
  intro vs h;cases vs with
  |nil=>simp at h
  |cons v vs=>simp only[List.length_cons,Nat.add_right_cancel_iff]at h;obtain⟨h1,h2⟩:=ih h;simp[h1,h2]
theorem xic(hT:TabOk P T){t e:TypeId}(ht:T.td t= .slice e){n:Nat}{is:List Nat}{vs:List V}(hl:vs.length=is.length){k:V→Prog}
  (h:Res slot (needP (decide (T.size e≠0∧n*T.size e≤65536)&&zg (T.size e) (T.zero e))<|
    optP (jo (T.size e) (is.zip vs) (List.replicate n (T.zero e))) fun l=>newP (.cells false (pureL l) e l) fun id=>k (.ref id)) m x m'):
  ∃id m1,Res slot (k (.ref id)) m1 x m'∧m1.S=m.S∧∀(G:Gh) (w:World) (ps:Array (Nat×Value)),ps.toList.map (·.1)=is→LRel G vs (ps.toList.map (·.2))→HeapRel G T w m.H m.Fz→MRel G T w→
   Does P T m1 (.ref id) G w (Instr.buildSlice t n ps):=by
 have hb:=h.needP.1;replace h:=h.needP.2;simp only[Bool.and_eq_true,decide_eq_true_eq]at hb;obtain⟨⟨hs0,hbig⟩,hz⟩:=hb;obtain⟨l,hf,h⟩:=h.optP;obtain⟨id,m1,hn,h⟩:=h.newP;refine⟨id,m1,h,hn.S,fun G w ps h1 h2 hH hM=>⟨?_⟩⟩;obtain⟨inf,zv,hi,hisz,hiby,hiz,hzs,hzr⟩:=zkh hT hs0 hz;obtain⟨z1,z2⟩:=zo1 hl;have hu:=hT.slice ht
 have hmade:CellsRel G (flat (List.replicate n (T.zero e))) (madeCells zv.cells (n*T.size e)) 0:=zn1 (hzr G) hz fun i q y hi hq=>by
  have hq':=(Array.getElem?_eq_some_iff.1 hq).1;rw[←hzs];refine yl7 hq ?_;have:(i+1)*zv.cells.size≤n*zv.cells.size:=Nat.mul_le_mul_right _ hi;rw[Nat.add_mul]at this;omega
 obtain⟨c',f1,f2,f3,f4,f5,f6⟩:=xas (G:=G) hf (fun v hv=>by rw[(List.mem_replicate.1 hv).2];exact hz) hmade (by rw[size_madeCells];simp) (ps:=ps.toList) (by rw[h1,z1]) (by rw[z2];exact h2);rw[size_madeCells]at f2;rw[List.length_replicate]at f5;obtain⟨g,g1,g2,g3,g4,hS,hH',hM',hR⟩:=zg8 (w:=w) (w':=w.alloc (.cells c' e)) hn hH hM f4 (fun hp=>hp) (by rw[f5,f2];exact Nat.le_refl _) f3 rfl;refine⟨.slice (some ⟨w.heap.size,0,none⟩) n n,_,_,?_,hS,hH',hM',.ref id _ _ _ (by rw[hR];simp) fun g' hg'=> ?_⟩
 ·have hnb:¬(16777216<n*T.size e):=by omega
  by_cases hn0:n*T.size e=0
  ·have hm:madeCells zv.cells (n*T.size e)= #[]:=by rw[hn0];simp[madeCells,Array.range_zero']
   have f1':Instr.fill (fun i=>some (i*T.size e,T.size e)) #[] ps.toList=some c':=by rw[←hm];exact f1
   have hn00:n=0:=by rcases Nat.mul_eq_zero.1 hn0 with h|h;exact h;exact absurd h hs0
   subst hn00;simp[Instr.buildSlice,run_underlying hu,sizeOf,typeInfo,hi,hisz,newRow,Array.range_zero',f1']
  ·have f1':Instr.fill (fun i=>some (i*T.size e,T.size e)) ((Array.range (n*T.size e)).map (zv.cells[· %zv.cells.size]!)) ps.toList=some c':=f1
   have hne:¬(n=0∨T.size e=0):=fun h=>hn0 (Nat.mul_eq_zero.2 h);simp[Instr.buildSlice,run_underlying hu,sizeOf,typeInfo,zeroValue,hi,hiz,hisz,newRow,hnb,hne,hn0,f1']
 ·rw[hR]at hg';cases hg'
  exact⟨by rw[g1],by rw[g2,f5],Nat.le_refl _,by rw[g3,g4,f2];exact Nat.le_refl _⟩
theorem yvn(hT:TabOk P T){t e:TypeId}(ht:T.td t= .slice e){n c:Int}{k:V→Prog}
  (h:Res slot (needP (decide (0≤n∧n≤c∧c<maxRow∧T.bytes e≤4096∧T.size e≠0)&&zg (T.size e) (T.zero e))
    (newP (.cells false (pureV (T.zero e)) e (List.replicate n.toNat (T.zero e))) fun id=>k (.ref id))) m x m'):
  ∃id m1,Res slot (k (.ref id)) m1 x m'∧m1.S=m.S∧∀(G:Gh) (w:World),HeapRel G T w m.H m.Fz→MRel G T w→
   Does P T m1 (.ref id) G w (Instr.makeSlice t (.int .i64 n) (.int .i64 c)):=by
 have hb:=h.needP.1;replace h:=h.needP.2;simp only[Bool.and_eq_true,decide_eq_true_eq]at hb;obtain⟨⟨h0,h1,h2,hby,hs0⟩,hz⟩:=hb;obtain⟨id,m1,hn,h⟩:=h.newP;refine⟨id,m1,h,hn.S,fun G w hH hM=>⟨?_⟩⟩;obtain⟨inf,zv,hi,hisz,hiby,hiz,hzs,hzr⟩:=zkh hT hs0 hz;have hu:=hT.slice ht;have hm:maxRow=16777216:=rfl;have hc0:0≤c:=by omega
 have hcn:n.toNat≤c.toNat:=by omega
 have hbytes:(inf.bytes:Int)*c≤281474976710656:=by
  have hcl:c.toNat<16777216:=by omega
  have:inf.bytes*c.toNat≤4096*16777216:=Nat.mul_le_mul (by omega) (by omega);have e1:(inf.bytes:Int)*c=((inf.bytes*c.toNat:Nat):Int):=by rw[Int.natCast_mul,Int.toNat_of_nonneg hc0]
  rw[e1];omega
 have hr:=run_make (P:=P) w t e inf zv hu hi hiz .i64 .i64 n c h0 h1 hbytes (by omega);rw[hisz]at hr
 have hmade:CellsRel G (flat (List.replicate n.toNat (T.zero e))) (madeCells zv.cells (c.toNat*T.size e)) 0:=zn1 (hzr G) hz fun i q y hi hq=>by
  have hq':=(Array.getElem?_eq_some_iff.1 hq).1;rw[←hzs];refine yl7 hq ?_;have:(i+1)*zv.cells.size≤c.toNat*zv.cells.size:=Nat.mul_le_mul_right _ (by omega);rw[Nat.add_mul]at this;omega
 obtain⟨g,g1,g2,g3,g4,hS,hH',hM',hR⟩:=zg8 (w:=w) (w':=w.alloc (.cells (madeCells zv.cells (c.toNat*T.size e)) e)) hn hH hM (fun v hv=>by rw[(List.mem_replicate.1 hv).2];exact hz)
  (fun hp=>pureL_iff.2 fun v hv=>by rw[(List.mem_replicate.1 hv).2];exact hp) (by rw[List.length_replicate,size_madeCells];exact Nat.mul_le_mul_right _ hcn) hmade rfl
 refine⟨_,_,_,hr,hS,hH',hM',.ref id _ _ _ (by rw[hR];simp) fun g' hg'=> ?_⟩;rw[hR]at hg';cases hg';exact⟨by rw[g1],by rw[g2,List.length_replicate],hcn,by rw[g3,g4,size_madeCells];exact Nat.le_refl _⟩
theorem xig:vu #[] 0:=⟨by simp,by simp⟩
theorem xif{es:Array MapEntry}{k:Nat}(h:vu es k)(x y:Value):vu (es.push {key:=x,val:=y,born:=k}) (k+1):=by
 refine⟨?_,fun e he=> ?_⟩
 ·rw[Array.toList_push,List.pairwise_append]
  refine⟨h.1,by simp,fun a ha b hb=> ?_⟩;simp at hb;subst hb;exact h.2 a ha
 ·rw[Array.toList_push,List.mem_append]at he
  rcases he with he|he
  ·exact Nat.lt_succ_of_lt (h.2 e he)
  ·simp at he;subst he;exact Nat.lt_succ_self _
theorem xii{es es':Array MapEntry}{k:Nat}(h:vu es k)(he:es'.toList.map (·.born)=es.toList.map (·.born)):vu es' k:=by
 obtain⟨h1,h2⟩:=h;refine⟨?_,fun e hm=> ?_⟩
 ·rw[←List.pairwise_map (f:=fun e:MapEntry=>e.born) (R:=(· < ·))]at h1⊢
  rw[he];exact h1
 ·have:e.born∈es'.toList.map (·.born):=List.mem_map.2 ⟨e,hm,rfl⟩
  rw[he]at this;obtain⟨x,hx,e1⟩:=List.mem_map.1 this;rw[←e1];exact h2 x hx
theorem xih{es:Array MapEntry}{k:Nat}(h:vu es k)(i:Nat)(x y:Value):vu (es.modify i fun e=>{e with key:=x,val:=y}) k:=by
 apply xii h;apply List.ext_getElem?;intro j;rw[List.getElem?_map,List.getElem?_map,Array.getElem?_toList,Array.getElem?_toList,Array.getElem?_modify];by_cases hij:i=j
 ·rw[if_pos hij];cases es[j]? <;>rfl
 ·rw[if_neg hij]
theorem xij{es:Array MapEntry}{k:Nat}(h:vu es k)(i:Nat):vu (es.eraseIdxIfInBounds i) k:=by
 by_cases hi:i<es.size
 ·have e:(es.eraseIdxIfInBounds i).toList=es.toList.eraseIdx i:=by simp[Array.eraseIdxIfInBounds,hi]
  unfold vu;rw[e];exact⟨h.1.sublist (List.eraseIdx_sublist ..),fun x hx=>h.2 x (List.mem_of_mem_eraseIdx hx)⟩
 ·have e:es.eraseIdxIfInBounds i=es:=by simp[Array.eraseIdxIfInBounds,hi]
  rw[e];exact h
theorem yvo{t:TypeId}{k:V→Prog}(h:Res slot (newP (.map []) fun id=>k (.map id)) m x m'):
  ∃id m1,Res slot (k (.map id)) m1 x m'∧m1.S=m.S∧∀(G:Gh) (w:World),HeapRel G T w m.H m.Fz→MRel G T w→Does P T m1 (.map id) G w (Instr.makeMap t none):=by
 obtain⟨id,m1,hn,h⟩:=h.newP;refine⟨id,m1,h,hn.S,fun G w hH hM=>⟨?_⟩⟩
 obtain⟨hS,hH',hM',hR⟩:=zhq (w':=w.alloc (.map #[] 0)) (o:= .map #[] 0) (g:=⟨w.heap.size,0,0,0⟩) hn hH hM rfl rfl fun hle hMn hz=>
  ⟨_,by simp[Gh.setR],hMn,hz,#[],0,⟨heap_alloc_new w _,xig⟩,rfl,fun i p e hp=>by simp at hp⟩
 refine⟨.map (some w.heap.size),_,_,by simp[Instr.makeMap],hS,hH',hM',.map id _ (by rw[hR];simp) fun g' hg'=> ?_⟩;rw[hR]at hg';cases hg';rfl
theorem zfi{G:Gh}{w:World}{id:Nat}{es:List (V×V)}{Fz:Nat}{r:Option Nat}(h:RowRel G T w Fz id (.map es))(hm:Rel G (.map id) (.map r)):
  ∃g ents clock,r=some g.blk∧G.R id= .live g∧G.M g.blk=none∧Fz.testBit id=false∧w.heap[g.blk]? =some (.map ents clock)∧EntRel G es ents.toList∧(∀(i:Nat) p,es[i]? =some p→pureV p.1=true∧pureV p.2=true)∧vu ents clock:=by
 obtain⟨g,hg,h1,h2,ents,clock,⟨hc,hbo⟩,hs,hes⟩:=h;cases hm with|map _ _ hf ha=>
 refine⟨g,ents,clock,ha g hg,hg,h1,h2,hc,⟨by simpa using hs,fun i p e hp he=> ?_⟩,fun i p hp=> ?_,hbo⟩
 ·obtain⟨e1,e2,_⟩:=hes i p e hp (by simpa using he);exact⟨e1,e2⟩
 ·have hi:i<ents.size:=by rw[hs];exact(List.getElem?_eq_some_iff.1 hp).1
  obtain⟨_,_,e3,e4⟩:=hes i p ents[i] hp (by simp[hi]);exact⟨e3,e4⟩
theorem yw5(hT:TabOk P T){t kt e:TypeId}(ht:T.td t= .map kt e){mv kv:V}{ok:Bool}{k:V→Prog}(h:Res slot (needP (keyOk T 3 kt kv)<|(match mv with
   | .nilm=>k (kf ok (T.zero e) false)
   | .map id=> .get id fun row=>(match row with
    | .map es=>optP (mapGet (eqT T kp kt) es kv) fun o=>(match o with
     |some v=>toP (shape T shD e v fun v=>some (k (kf ok v true)))
     |none=>k (kf ok (T.zero e) false))
    |_=> .fail)
   |_=> .fail)) m x m'):
  ∃v,Res slot (k v) m x m'∧∀(G:Gh) (w:World) (y1 y2:Value),Rel G mv y1→Rel G kv y2→HeapRel G T w m.H m.Fz→MRel G T w→∃z,(Instr.lookup t y1 y2 ok).run P w= .ok z w∧Rel G v z:=by
 have hk:=h.needP.1;replace h:=h.needP.2;have hu:=hT.mapT ht;obtain⟨ke,hke⟩:=j8 hT ht (by simp) (u:=e) (by simp[TD.subs]);obtain⟨kk,hkk⟩:=j8 hT ht (by simp) (u:=kt) (by simp[TD.subs]);obtain⟨inf,z,z1,z2,z3,z4⟩:=zke hT hke;have hkd:∃kd,P.underlying kt=some kd:=by obtain⟨_,d,_,h2,_⟩:=hT.get hkk;exact⟨d,h2⟩
 have hzr:∀w,(zeroValue e).run P w= .ok z w:=fun w=>by simp[zeroValue,typeInfo,z1,z2]
  -- no such entry
 have miss:∀(G:Gh),Rel G (kf ok (T.zero e) false) (if ok=true then .tuple #[z,.bool false]else z):=by
  intro G;have hz:Rel G (T.zero e) z:=by rw[z4];exact zf7 G z
  cases ok with
  |false=>exact hz
  |true=>exact LRel.toTup (a:= #[z,.bool false]) (by simpa using (LRel.one hz).append (LRel.one (.bool false)))
 split at h
 ·refine⟨_,h,fun G w y1 y2 h1 h2 hH hM=>⟨_,?_,miss G⟩⟩
  cases h1;have hck:=zfn hT 3 kt kv hk G y2 w true 10000 (by decide) h2;have hf:=zca (es:= []) (ents:= []) (o:=none) hT hkd h2 w rfl ⟨rfl,fun i p e hp=>by simp at hp⟩;simp only[Option.bind_none]at hf;simp[Instr.lookup,run_underlying hu,hck,hf,hzr]
 ·rename_i id
  obtain⟨row,hr,hg⟩:=h.get;clear h;split at hg
  ·rename_i es
   obtain⟨o,ho,h⟩:=hg.optP;clear hg;rcases yvl ho with⟨rfl,hp⟩|⟨i,p,hp,hi,rfl⟩
   ·refine⟨_,h,fun G w y1 y2 h1 h2 hH hM=>⟨_,?_,miss G⟩⟩
    cases h1 with|map _ r hf ha=>
    obtain⟨g,ents,clock,rfl,hg,hMn,hz,hc,hes,hpu,hbo⟩:=zfi (hH.rows id _ hr) (.map id r hf ha);have hck:=zfn hT 3 kt kv hk G y2 w ents.isEmpty 10000 (by decide) h2;have hff:=zca hT hkd h2 w hp hes;simp only[Option.bind_none]at hff;simp[Instr.lookup,run_underlying hu,getObj,Sem.run,hc,hck,hff,hzr]
   ·simp only at h
    obtain⟨q,hq,h⟩:=h.toP;obtain⟨v',hv',hsame⟩:=wm _ _ _ _ _ hq;simp only[Option.some.injEq]at hv';subst hv';refine⟨_,h,fun G w y1 y2 h1 h2 hH hM=> ?_⟩;cases h1 with|map _ r hf ha=>
    obtain⟨g,ents,clock,rfl,hg,hMn,hz,hc,hes,hpu,hbo⟩:=zfi (hH.rows id _ hr) (.map id r hf ha);have hck:=zfn hT 3 kt kv hk G y2 w ents.isEmpty 10000 (by decide) h2;have hff:=zca hT hkd h2 w hp hes;have hil:i<ents.toList.length:=by rw[hes.1];exact(List.getElem?_eq_some_iff.1 hi).1
    have hent:=List.getElem?_eq_getElem hil;simp only[Option.bind_some]at hff;rw[hent]at hff;simp only[Option.map_some]at hff;have hval:=(hes.2 i p _ hi hent).2;refine⟨if ok=true then .tuple #[(ents.toList[i]).val,.bool true]else(ents.toList[i]).val,by simp[Instr.lookup,run_underlying hu,getObj,Sem.run,hc,hck,hff],?_⟩;have hz':=hsame G _ hval;cases ok with
    |false=>exact hz'
    |true=>exact LRel.toTup (a:= #[(ents.toList[i]).val,.bool true]) (by simpa using (LRel.one hz').append (LRel.one (.bool true)))
  ·exact hg.fail.elim
 ·exact h.fail.elim
theorem zhp{w:World}{r:Nat}{o o':Obj}(h:w.heap[r]? =some o):({w with heap:=w.heap.setIfInBounds r o'}:World).heap[r]? =some o':=by
 have:=(Array.getElem?_eq_some_iff.1 h).1;simp[this]
theorem yvk{eq:V→V→Option Bool}{x y:V}:∀{es es':List (V×V)},mapSet eq es x y=some es'→(place eq es x=some none∧es'=es++ [(x,y)])∨∃i p,place eq es x=some (some i)∧es[i]? =some p∧zc5 p.1 x=true∧es'=es.set i (x,y):=by
 intro es
 induction es with
 |nil=>intro es' h;simp only[mapSet,Option.some.injEq]at h;exact .inl ⟨rfl,h.symm⟩
 |cons p es ih=>
  obtain⟨a,b⟩:=p;intro es' h;simp only[mapSet]at h;split at h
  ·rename_i he
   split at h
   ·rename_i hs
    simp only[Option.some.injEq]at h;exact .inr ⟨0,(a,b),by simp[place,he],rfl,hs,h.symm⟩
   ·cases h
  ·rename_i he
   split at h
   ·rename_i r' hr
    simp only[Option.some.injEq]at h;subst h;rcases ih hr with⟨h1,rfl⟩|⟨i,p,h1,h2,h3,rfl⟩
    ·exact .inl ⟨by simp[place,he,h1],rfl⟩
    ·exact .inr ⟨i+1,p,by simp[place,he,h1],by simpa using h2,h3,rfl⟩
   ·cases h
  ·cases h
theorem yvj(hT:TabOk P T){t kt e:TypeId}(ht:T.td t= .map kt e){id:Nat}{kv yv:V}{k:V→Prog}(hpy:True)(h:Res slot (needP (!zm yv&&(pureV kv&&keyOk T 3 kt kv)) (.get id fun row=>(match row with
   | .map es=>optP (mapSet (eqT T kp kt) es kv yv) fun es'=> .set id (.map es') (k .undef)
   |_=> .fail))) m x m'):
  ∃m1,Res slot (k .undef) m1 x m'∧m1.S=m.S∧∀(G:Gh) (w:World) (y1 y2 y3:Value),Rel G (.map id) y1→Rel G kv y2→Rel G yv y3→pureV yv=true→HeapRel G T w m.H m.Fz→MRel G T w→
   ∃w',(Instr.mapUpdate t y1 y2 y3).run P w= .ok () w'∧Step G w G w'∧HeapRel G T w' m1.H m1.Fz∧MRel G T w':=by
 have hk:=h.needP.1;replace h:=h.needP.2;simp only[Bool.and_eq_true]at hk;obtain⟨_,hkp,hk⟩:=hk;have hu:=hT.mapT ht;obtain⟨kk,hkk⟩:=j8 hT ht (by simp) (u:=kt) (by simp[TD.subs]);have hkd:∃kd,P.underlying kt=some kd:=by obtain⟨_,d,_,h2,_⟩:=hT.get hkk;exact⟨d,h2⟩
 obtain⟨row,hr,hg⟩:=h.get;clear h;split at hg
 ·rename_i es
  obtain⟨es',he,h⟩:=hg.optP;clear hg;obtain⟨_,h⟩:=h.set;refine⟨_,h,rfl,fun G w y1 y2 y3 h1 h2 h3 hpy hH hM=> ?_⟩;cases h1 with|map _ r hf ha=>
  obtain⟨g,ents,clock,rfl,hg,hMn,hz,hc,hes,hpu,hbo⟩:=zfi (hH.rows id _ hr) (.map id r hf ha);have hck:=zfn hT 3 kt kv hk G y2 w false 10000 (by decide) h2;rcases yvk he with⟨hp,rfl⟩|⟨i,p,hp,hi,hsb,rfl⟩
  ·have hff:=zca hT hkd h2 w hp hes
   simp only[Option.bind_none]at hff;refine⟨{w with heap:=w.heap.setIfInBounds g.blk (.map (ents.push {key:=y2,val:=y3,born:=clock}) (clock+1))},by simp[Instr.mapUpdate,run_underlying hu,getObj,setObj,Sem.run,hc,hck,hff],?_⟩;refine heap_set hH hM hr hg hMn (fun b hb=>by simp[Array.getElem?_setIfInBounds_ne (Ne.symm hb)]) (by simp) ?_;refine⟨g,hg,hMn,hz,_,_,⟨zhp hc,xif hbo y2 y3⟩,by have:=hes.1;simp at this⊢;omega,fun i q f hq hf=> ?_⟩;have hlen:ents.size=es.length:=by simpa using hes.1
   by_cases hil:i<es.length
   ·rw[List.getElem?_append_left hil]at hq
    rw[Array.getElem?_push,if_neg (by omega)]at hf;obtain⟨e1,e2⟩:=hes.2 i q f hq (by simpa using hf);exact⟨e1,e2,(hpu i q hq).1,(hpu i q hq).2⟩
   ·rw[List.getElem?_append_right (by omega)]at hq
    have hi0:i=es.length:=by
     have:=(List.getElem?_eq_some_iff.1 hq).1;simp at this;omega
    subst hi0;simp at hq;subst hq;rw[←hlen]at hf;simp at hf;subst hf;exact⟨h2,h3,hkp,hpy⟩
  ·have hff:=zca hT hkd h2 w hp hes
   have hil:i<ents.toList.length:=by rw[hes.1];exact(List.getElem?_eq_some_iff.1 hi).1
   have hent:=List.getElem?_eq_getElem hil;simp only[Option.bind_some]at hff;rw[hent]at hff;simp only[Option.map_some]at hff;have hkey:=(hes.2 i p _ hi hent).1;have hil':i<ents.size:=by simpa using hil
   have hsame:=yrn hsb hkey h2
   have hst:∀w,(Instr.keyThatStays (((ents[i]?).map (·.key)).getD y2) y2).run P w= .ok y2 w:=fun w=>by
    simp only[Instr.keyThatStays,hil',Array.getElem?_eq_getElem,Option.map_some,Option.getD_some];rw[if_pos (by simpa using hsame)];rfl
   refine⟨{w with heap:=w.heap.setIfInBounds g.blk (.map (ents.modify i fun e=>{e with key:=y2,val:=y3}) clock)},by simp[Instr.mapUpdate,run_underlying hu,getObj,setObj,Sem.run,hc,hck,hff,hst],?_⟩;refine heap_set hH hM hr hg hMn (fun b hb=>by simp[Array.getElem?_setIfInBounds_ne (Ne.symm hb)]) (by simp) ?_;refine⟨g,hg,hMn,hz,_,_,⟨zhp hc,xih hbo i y2 y3⟩,by have:=hes.1;simp at this⊢;omega,fun j q f hq hf=> ?_⟩;rw[Array.getElem?_modify]at hf;by_cases hij:i=j
   ·subst hij
    simp only[if_true]at hf;rw[Array.getElem?_eq_getElem hil']at hf;simp only[Option.map_some,Option.some.injEq]at hf;subst hf;have hil2:i<es.length:=(List.getElem?_eq_some_iff.1 hi).1;simp only[List.getElem?_set,if_true,hil2,Option.some.injEq]at hq;subst hq;exact⟨h2,h3,hkp,hpy⟩
   ·rw[if_neg hij]at hf
    rw[List.getElem?_set_ne hij]at hq;obtain⟨e1,e2⟩:=hes.2 j q f hq (by simpa using hf);exact⟨e1,e2,(hpu j q hq).1,(hpu j q hq).2⟩
 ·exact hg.fail.elim
theorem yvm{eq:V→V→Option Bool}{x:V}:∀{es es':List (V×V)},mapDel eq es x=some es'→(place eq es x=some none∧es'=es)∨∃i,i<es.length∧place eq es x=some (some i)∧es'=es.eraseIdx i:=by
 intro es
 induction es with
 |nil=>intro es' h;simp only[mapDel,Option.some.injEq]at h;exact .inl ⟨rfl,h.symm⟩
 |cons p es ih=>
  obtain⟨a,b⟩:=p;intro es' h;simp only[mapDel]at h;split at h
  ·rename_i he
   simp only[Option.some.injEq]at h;exact .inr ⟨0,by simp,by simp[place,he],by simp[h]⟩
  ·rename_i he
   split at h
   ·rename_i r' hr
    simp only[Option.some.injEq]at h;subst h;rcases ih hr with⟨h1,rfl⟩|⟨i,hi,h1,rfl⟩
    ·exact .inl ⟨by simp[place,he,h1],rfl⟩
    ·exact .inr ⟨i+1,by simp[hi],by simp[place,he,h1],rfl⟩
   ·cases h
  ·cases h
theorem xex(hT:TabOk P T){t kt e:TypeId}(ht:T.td t= .map kt e){id:Nat}{kv:V}{k:V→Prog}(h:Res slot (needP (keyOk T 3 kt kv)<| .get id fun row=>(match row with
   | .map es=>optP (mapDel (eqT T kp kt) es kv) fun es'=> .set id (.map es') (k (.tup []))
   |_=> .fail)) m x m'):
  ∃m1,Res slot (k (.tup [])) m1 x m'∧m1.S=m.S∧∀(G:Gh) (w:World) (y1 y2:Value) (tys:Array TypeId) (ty:TypeId),tys[0]? =some t→Rel G (.map id) y1→Rel G kv y2→HeapRel G T w m.H m.Fz→MRel G T w→
   Does P T m1 (.tup []) G w (Builtin.delete_ tys ty #[y1,y2]):=by
 have hk:=h.needP.1;replace h:=h.needP.2;have hu:=hT.mapT ht;obtain⟨kk,hkk⟩:=j8 hT ht (by simp) (u:=kt) (by simp[TD.subs]);have hkd:∃kd,P.underlying kt=some kd:=by obtain⟨_,d,_,h2,_⟩:=hT.get hkk;exact⟨d,h2⟩
 obtain⟨row,hr,hg⟩:=h.get;clear h;split at hg
 ·rename_i es
  obtain⟨es',he,h⟩:=hg.optP;clear hg;obtain⟨_,h⟩:=h.set;refine⟨_,h,rfl,fun G w y1 y2 tys ty htys h1 h2 hH hM=>⟨?_⟩⟩;cases h1 with|map _ r hf ha=>
  obtain⟨g,ents,clock,rfl,hg,hMn,hz,hc,hes,hpu,hbo⟩:=zfi (hH.rows id _ hr) (.map id r hf ha);have hck:=zfn hT 3 kt kv hk G y2 w ents.isEmpty 10000 (by decide) h2;have hlen:ents.size=es.length:=by simpa using hes.1
  have fin:∀(ents':Array MapEntry) (clock':Nat),(Builtin.delete_ tys ty #[.map (some g.blk),y2]).run P w= .ok (.tuple #[]) {w with heap:=w.heap.setIfInBounds g.blk (.map ents' clock')}→ents'.size=es'.length→vu ents' clock'→
    (∀(i:Nat) q f,es'[i]? =some q→ents'[i]? =some f→Rel G q.1 f.key∧Rel G q.2 f.val∧pureV q.1=true∧pureV q.2=true)→
    ∃y w' G',(Builtin.delete_ tys ty #[.map (some g.blk),y2]).run P w= .ok y w'∧Step G w G' w'∧HeapRel G' T w' (m.H.set id (.map es')) m.Fz∧MRel G' T w'∧Rel G' (.tup []) y:=by
   intro ents' clock' hrun hsz hbo' hrel;obtain⟨s1,s2,s3⟩:=heap_set (w':={w with heap:=w.heap.setIfInBounds g.blk (.map ents' clock')}) (r:= .map es') hH hM hr hg hMn (fun b hb=>by simp[Array.getElem?_setIfInBounds_ne (Ne.symm hb)]) (by simp) ⟨g,hg,hMn,hz,_,_,⟨zhp hc,hbo'⟩,hsz,hrel⟩;exact⟨_,_,G,hrun,s1,s2,s3,LRel.toTup (a:= #[]) (LRel.nil G)⟩
  rcases yvm he with⟨hp,rfl⟩|⟨i,hi,hp,rfl⟩
  ·have hff:=zca hT hkd h2 w hp hes
   simp only[Option.bind_none]at hff;refine fin ents clock (by simp[Builtin.delete_,htys,run_underlying hu,getObj,setObj,Sem.run,hc,hck,hff]) hlen hbo fun i q f hq hf=> ?_;obtain⟨e1,e2⟩:=hes.2 i q f hq (by simpa using hf);exact⟨e1,e2,(hpu i q hq).1,(hpu i q hq).2⟩
  ·have hff:=zca hT hkd h2 w hp hes
   have hil:i<ents.toList.length:=by rw[hes.1];exact hi
   simp only[Option.bind_some]at hff;rw[List.getElem?_eq_getElem hil]at hff;simp only[Option.map_some]at hff;have hil':i<ents.size:=by simpa using hil
   refine fin (ents.eraseIdxIfInBounds i) clock (by simp[Builtin.delete_,htys,run_underlying hu,getObj,setObj,Sem.run,hc,hck,hff]) ?_ (xij hbo i) fun j q f hq hf=> ?_
   ·rw[List.length_eraseIdx,if_pos hi,←hlen];simp[Array.eraseIdxIfInBounds,hil',Array.size_eraseIdx]
   ·have hf':(ents.toList.eraseIdx i)[j]? =some f:=by
     have:(ents.eraseIdxIfInBounds i).toList=ents.toList.eraseIdx i:=by simp[Array.eraseIdxIfInBounds,hil']
     rw[←this,Array.getElem?_toList];exact hf
    rw[List.getElem?_eraseIdx]at hq hf';by_cases hji:j<i
    ·rw[if_pos hji]at hq hf'
     obtain⟨e1,e2⟩:=hes.2 j q f hq hf';exact⟨e1,e2,(hpu j q hq).1,(hpu j q hq).2⟩
    ·rw[if_neg hji]at hq hf'
     obtain⟨e1,e2⟩:=hes.2 (j+1) q f hq hf';exact⟨e1,e2,(hpu _ q hq).1,(hpu _ q hq).2⟩
 ·exact hg.fail.elim
theorem ysx(hT:TabOk P T){t:TypeId}(ht:T.td t= .string){s:List UInt8}{k:V→Prog}(h:Res slot (newP (.siter s 0) fun id=>k (.it id)) m x m'):
  ∃id m1,Res slot (k (.it id)) m1 x m'∧m1.S=m.S∧∀(G:Gh) (w:World) (y:Value),Rel G (.str s) y→HeapRel G T w m.H m.Fz→MRel G T w→Does P T m1 (.it id) G w (Instr.range t y):=by
 obtain⟨id,m1,hn,h⟩:=h.newP;refine⟨id,m1,h,hn.S,fun G w y hy hH hM=>⟨?_⟩⟩;cases hy with|str bs _ hbs=>
 obtain⟨hS,hH',hM',hR⟩:=zhq (w':=w.alloc (.stringIter bs 0)) (o:= .stringIter bs 0) (g:=⟨w.heap.size,0,0,0⟩) hn hH hM rfl rfl fun hle hMn hz=>
  ⟨_,by simp[Gh.setR],hMn,hz,bs,heap_alloc_new w _,hbs⟩
 refine⟨.pointer (some ⟨w.heap.size,0,none⟩),_,_,by simp[Instr.range,run_underlying (hT.string ht)],hS,hH',hM',.it id _ (by rw[hR];simp) fun g' hg'=> ?_⟩;rw[hR]at hg';cases hg';rfl
theorem yuv{id:Nat}{ty:TypeId}{k:V→Prog}(h:Res slot (.get id fun row=>(match row with
   | .siter s p=>br (decide (p<s.length))
     (.set id (.siter s (p+(Utf8.decode ⟨s.toArray⟩ p).2)) (k (.tup [.bool true,.int .i64 p,.int .i32 (Utf8.decode ⟨s.toArray⟩ p).1])))
     (k (.tup [.bool false]))
   |_=> .fail)) m x m'):
  ∃v m1,Res slot (k v) m1 x m'∧m1.S=m.S∧∀(G:Gh) (w:World) (y:Value),Rel G (.it id) y→HeapRel G T w m.H m.Fz→MRel G T w→Does P T m1 v G w (Instr.next y true ty):=by
 obtain⟨row,hr,h⟩:=h.get;split at h
 ·rename_i s p
  cases hd:decide (p<s.length)with
  |true=>
   rw[hd]at h;simp only[br]at h;have hlt:=of_decide_eq_true hd;obtain⟨_,h⟩:=h.set;refine⟨_,_,h,rfl,fun G w y hy hH hM=>⟨?_⟩⟩;obtain⟨g,hg,hMn,hz,bs,hc,rfl⟩:=hH.rows id _ hr;cases hy with|it _ a hf ha=>
   obtain rfl:=ha g hg;have hbs:(⟨bs.data.toList.toArray⟩:ByteArray)=bs:=by simp
   rw[hbs]at*;have hlt':p<bs.size:=hlt;obtain⟨s1,s2,s3⟩:=heap_set (w':={w with heap:=w.heap.setIfInBounds g.blk (.stringIter bs (p+(Utf8.decode bs p).2))}) (r:= .siter bs.data.toList (p+(Utf8.decode bs p).2)) hH hM hr hg hMn (fun b hb=>by simp[Array.getElem?_setIfInBounds_ne (Ne.symm hb)]) (by simp) ⟨g,hg,hMn,hz,bs,zhp hc,rfl⟩;refine⟨.tuple #[.bool true,goInt p,.int .i32 (Utf8.decode bs p).1],_,G,?_,s1,s2,s3,LRel.toTup (a:= #[.bool true,goInt p,.int .i32 (Utf8.decode bs p).1]) ?_⟩
   ·simp[Instr.next,getObj,setObj,Sem.run,hc,hlt']
   ·simpa using ((LRel.one (.bool true)).append (LRel.one (ze8 G p))).append (LRel.one (.int .i32 _))
  |false=>
   rw[hd]at h;simp only[br]at h;have hlt:=of_decide_eq_false hd;refine⟨_,m,h,rfl,fun G w y hy hH hM=> ?_⟩;obtain⟨g,hg,hMn,hz,bs,hc,rfl⟩:=hH.rows id _ hr;cases hy with|it _ a hf ha=>
   obtain rfl:=ha g hg;have hlt':¬p<bs.size:=hlt;exact .still (y:= .tuple #[.bool false]) hH hM (by simp[Instr.next,getObj,Sem.run,hc,hlt']) (LRel.toTup (a:= #[.bool false]) (by simpa using LRel.one (.bool false)))
 ·exact h.fail.elim
end
structure OG where
 R:Nat→RS
 l:Nat
 tmps:Array Value
 fn:FuncId
 low:Nat
def RelT(G:Gh)(Os:List OG):V→Value→Prop
 | .yld n,x=>∃O,Os[n]? =some O∧x= .func (.yield O.l) #[] #[]
 |v,x=>Rel G v x
theorem RelT.rel{G:Gh}{Os:List OG}{v:V}{x:Value}(h:RelT G Os v x)(hv:zm v=false):Rel G v x:=by
 cases v<;>first|exact h|simp[zm]at hv
theorem Rel.toT{G:Gh}{Os:List OG}{v:V}{x:Value}(h:Rel G v x):RelT G Os v x:=by
 cases v<;>first|exact h|cases h
theorem RelT.mono{G G':Gh}{Os:List OG}(hG:G.le G'){v:V}{x:Value}(h:RelT G Os v x):RelT G' Os v x:=by
 cases v<;>first|exact Rel.mono hG h|exact h
theorem yyn{v:V}(h:isCell v=true):zm v=false:=by cases v<;>simp[isCell,zm]at*
theorem zho{n:Nat}{v:V}(h:zg n v=true):zm v=false:=by
 rcases zm1 h with h|⟨cs,rfl⟩
 ·exact yyn h
 ·rfl
section
variable {P:Program} {T:Tab} {slot:Option Nat} {m m':Mem} {x:V}
theorem yva{α:Type}:∀{l:List V} {v:V} {k:V→Option α} {r:α},zeu l v k=some r→∃u,k u=some r∧(l= []→u=v)∧(l≠ []→∀a∈v::l,zm a=false)∧∀(G:Gh) (w:World) (y:Value) (ys:List Value),Rel G v y→LRel G l ys→∃z,(ys.foldlM Builtin.min2 y).run P w= .ok z w∧Rel G u z:=by
 intro l
 induction l with
 |nil=>intro v k r h;exact⟨v,h,fun _=>rfl,fun h=>absurd rfl h,fun G w y ys hy hys=>⟨y,by have:ys= []:=(by simpa using hys.1);subst this;simp,hy⟩⟩
 |cons a l ih=>
  intro v k r h;simp only[zeu]at h;obtain⟨kx,n1,rfl,h1⟩:=zd7 h;obtain⟨ky,n2,rfl,h2⟩:=zd7 h1;obtain⟨u,hu,_,hyl,hr⟩:=ih h2;refine⟨u,hu,fun h=>(by cases h),fun _ b hb=> ?_,fun G w y ys hy hys=> ?_⟩
  ·rcases List.mem_cons.1 hb with rfl|hb
   ·rfl
   ·rcases List.mem_cons.1 hb with rfl|hb
    ·rfl
    ·cases l with
     |nil=>cases hb
     |cons c l=>exact hyl (by simp) b (List.mem_cons_of_mem _ hb)
  cases hy;cases ys with
  |nil=>simp[LRel]at hys
  |cons z zs=>
   have hz:=hys.2 0 _ z rfl rfl;cases hz;have hzs:LRel G l zs:=by have:=hys.drop 1;simpa using this
   obtain⟨q,hq,hrq⟩:=hr G w (.int kx (if n2<n1 then n2 else n1)) zs (.int _ _) hzs;exact⟨q,by simpa[Builtin.min2]using hq,hrq⟩
theorem yvf{α:Type}:∀{l:List V} {v:V} {k:V→Option α} {r:α},zey l v k=some r→∃u,k u=some r∧(l= []→u=v)∧(l≠ []→∀a∈v::l,zm a=false)∧∀(G:Gh) (w:World) (y:Value) (ys:List Value),Rel G v y→LRel G l ys→∃z,(ys.foldlM Builtin.max2 y).run P w= .ok z w∧Rel G u z:=by
 intro l
 induction l with
 |nil=>intro v k r h;exact⟨v,h,fun _=>rfl,fun h=>absurd rfl h,fun G w y ys hy hys=>⟨y,by have:ys= []:=(by simpa using hys.1);subst this;simp,hy⟩⟩
 |cons a l ih=>
  intro v k r h;simp only[zey]at h;obtain⟨kx,n1,rfl,h1⟩:=zd7 h;obtain⟨ky,n2,rfl,h2⟩:=zd7 h1;obtain⟨u,hu,_,hyl,hr⟩:=ih h2;refine⟨u,hu,fun h=>(by cases h),fun _ b hb=> ?_,fun G w y ys hy hys=> ?_⟩
  ·rcases List.mem_cons.1 hb with rfl|hb
   ·rfl
   ·rcases List.mem_cons.1 hb with rfl|hb
    ·rfl
    ·cases l with
     |nil=>cases hb
     |cons c l=>exact hyl (by simp) b (List.mem_cons_of_mem _ hb)
  cases hy;cases ys with
  |nil=>simp[LRel]at hys
  |cons z zs=>
   have hz:=hys.2 0 _ z rfl rfl;cases hz;have hzs:LRel G l zs:=by have:=hys.drop 1;simpa using this
   obtain⟨q,hq,hrq⟩:=hr G w (.int kx (if n2>n1 then n2 else n1)) zs (.int _ _) hzs;exact⟨q,by simpa[Builtin.max2]using hq,hrq⟩
def LRelT(G:Gh)(Os:List OG)(l:List V)(xs:List Value):Prop:=xs.length=l.length∧∀(i:Nat) v x,l[i]? =some v→xs[i]? =some x→RelT G Os v x
theorem LRelT.head{G:Gh}{Os:List OG}{v:V}{l:List V}{xs:List Value}(h:LRelT G Os (v::l) xs):∃y ys,xs=y::ys∧RelT G Os v y∧LRelT G Os l ys:=by
 cases xs with
 |nil=>simp[LRelT]at h
 |cons y ys=>exact⟨y,ys,rfl,h.2 0 v y rfl rfl,by simpa using h.1,fun i a b ha hb=>h.2 (i+1) a b (by simpa using ha) (by simpa using hb)⟩
theorem xib(hT:TabOk P T){b:Builtin}{tys:List TypeId}{args:List V}{k:V→Prog}(h:Res slot (jy T b tys args k) m x m'):
  ∃u m1,Res slot (k u) m1 x m'∧m1.S=m.S∧∀(G:Gh) (Os:List OG) (w:World) (ys:List Value) (ty:TypeId) (cs:Array Bool),LRelT G Os args ys→HeapRel G T w m.H m.Fz→MRel G T w→
   ∃y w' G',(builtin b tys.toArray ty cs ys.toArray).run P w= .ok (.value y) w'∧Step G w G' w'∧HeapRel G' T w' m1.H m1.Fz∧MRel G' T w'∧RelT G' Os u y:=by
 unfold jy at h;split at h
 ·-- len
  rename_i v t ts;obtain⟨n,h,hr⟩:=yxi (P:=P) hT h;refine⟨_,m,h,rfl,fun G Os w ys ty cs hys hH hM=> ?_⟩;obtain⟨y,ys,rfl,hy,hys⟩:=hys.head;have:ys= []:=by simpa[LRelT]using hys.1
  subst this;have:=hr G w y (t::ts).toArray ty (by simp) (fun hv=>hy.rel hv) hH hM;exact⟨goInt n,w,G,by simp[builtin,this],.refl G w,hH,hM,(ze8 G n).toT⟩
 ·-- append
  rename_i v1 v2 t t'
  have fin:∀{e:TypeId} {d:TypeDesc},P.underlying t=some (.slice e)→P.underlying t'=some d→(∀kd,d≠ .int kd)→Res slot (wh T e v1 v2 k) m x m'→∃u m1,Res slot (k u) m1 x m'∧m1.S=m.S∧∀(G:Gh) (Os:List OG) (w:World) (ys:List Value) (ty:TypeId) (cs:Array Bool),LRelT G Os [v1,v2] ys→HeapRel G T w m.H m.Fz→MRel G T w→
   ∃y w' G',(builtin .append [t,t'].toArray ty cs ys.toArray).run P w= .ok (.value y) w'∧Step G w G' w'∧HeapRel G' T w' m1.H m1.Fz∧MRel G' T w'∧RelT G' Os u y:=by
   intro e d h1 h2 h3 h
   have hy1:zm v1=false:=by
    cases v1<;>first|rfl|(unfold wh at h;exfalso;obtain⟨xs,h,_⟩:=zdm (P:=P) h;exact h.needP.2.fail)
   have hy2:zm v2=false:=by
    cases v2<;>first|rfl|(unfold wh at h;exact h.fail.elim)
   obtain⟨u,m1,h,hS,hr⟩:=xiu (P:=P) hT h;refine⟨u,m1,h,hS,fun G Os w ys ty cs hys hH hM=> ?_⟩;obtain⟨y1,ys,rfl,r1,hys⟩:=hys.head;obtain⟨y2,ys,rfl,r2,hys⟩:=hys.head;have:ys= []:=by simpa[LRelT]using hys.1
   subst this;obtain⟨z,w',G',e1,e2,e3,e4,e5⟩:=hr G w y1 y2 t t' ty d h1 h2 h3 (r1.rel hy1) (r2.rel hy2) hH hM;exact⟨z,w',G',by simp[builtin,e1],e2,e3,e4,e5.toT⟩
  split at h
  ·rename_i e e' h1 h2
   exact fin (hT.slice h1) (hT.slice h2) (by simp) h
  ·rename_i e h1 h2
   exact fin (hT.slice h1) (hT.string h2) (by simp) h
  ·exact h.fail.elim
 ·-- copy
  rename_i v1 v2 t ts;split at h
  ·rename_i e id ht
   have hy2:zm v2=false:=by
    cases v2<;>first|rfl|exact h.fail.elim
   obtain⟨ys,h,hsrc⟩:=zdm (P:=P) h;obtain⟨row,hr,h⟩:=h.get;split at h
   ·rename_i b fl ty l
    obtain⟨m1,h,hS,hc⟩:=yni (P:=P) hT h;refine⟨_,m1,h,hS,fun G Os w zs ty' cs hzs hH hM=> ?_⟩;obtain⟨y1,zs,rfl,r1,hzs⟩:=hzs.head;obtain⟨y2,zs,rfl,r2,hzs⟩:=hzs.head;have:zs= []:=by simpa[LRelT]using hzs.1
    subst this;obtain⟨g,hg,h1,h2,_⟩:=hH.rows id _ hr;have hs:=hsrc G w y2 (r2.rel hy2) hH hM;cases (r1.rel rfl)with|ref _ a n cap hf ha=>
    obtain⟨rfl,rfl,hcap,_⟩:=ha g hg;obtain⟨g',hg',hc⟩:=hc G w hH hM;rw[hg]at hg';cases hg';obtain⟨xs,w',e1,e2,e3,e4,e5⟩:=hc y2 0 (by rw[h1];omega) (fun _=>by simp) hs;obtain⟨te,hte⟩:=j8 hT ht (by simp) (u:=e) (by simp[TD.subs]);have hl:=hs.len w;rw[←h1]at e1;have hmin:Nat.min ys.length g.len=min ys.length g.len:=rfl;refine⟨goInt (min ys.length g.len:Nat),w',G,?_,e3,e4,e5,?_⟩
    ·simp only[builtin,Builtin.copy_,List.getElem?_toArray,List.getElem?_cons_zero,List.getElem?_cons_succ,Sem.run_bind,run_underlying (hT.slice ht),Result.andThen_ok,hl,hT.size hte,hmin,e1,e2,Sem.run_pure]
    ·rw[h1];exact(ze8 G _).toT
   ·exact h.fail.elim
  ·rename_i e id a n ht
   have hy2:zm v2=false:=by
    cases v2<;>first|rfl|exact h.fail.elim
   obtain⟨ys,h,hsrc⟩:=zdm (P:=P) h;obtain⟨m1,h,hS,hc⟩:=yni (P:=P) hT h;refine⟨_,m1,h,hS,fun G Os w zs ty' cs hzs hH hM=> ?_⟩;obtain⟨y1,zs,rfl,r1,hzs⟩:=hzs.head;obtain⟨y2,zs,rfl,r2,hzs⟩:=hzs.head;have:zs= []:=by simpa[LRelT]using hzs.1
   subst this;have hs:=hsrc G w y2 (r2.rel hy2) hH hM;obtain⟨g,hg,hc⟩:=hc G w hH hM;cases (r1.rel rfl)with|sub _ _ _ ad cap hf hcb ha=>
   obtain⟨⟨hle,hlc,hroom⟩,⟨b1,o1,s1⟩,rfl,hb1,hs1,ho1⟩:=ha g hg;simp only at hb1 hs1 ho1;have ho1:n≠0→o1=a*g.sz:=fun h=>ho1 (by omega);subst hb1;subst hs1;obtain⟨xs,w',e1,e2,e3,e4,e5⟩:=hc y2 o1 hle ho1 hs;obtain⟨te,hte⟩:=j8 hT ht (by simp) (u:=e) (by simp[TD.subs]);have hl:=hs.len w;have hmin:Nat.min ys.length n=min ys.length n:=rfl;refine⟨goInt (min ys.length n:Nat),w',G,?_,e3,e4,e5,(ze8 G _).toT⟩;simp only[builtin,Builtin.copy_,List.getElem?_toArray,List.getElem?_cons_zero,List.getElem?_cons_succ,Sem.run_bind,run_underlying (hT.slice ht),Result.andThen_ok,hl,hT.size hte,hmin,e1,e2,Sem.run_pure]
  ·rename_i e sz ht
   have hy2:zm v2=false:=by
    cases v2<;>first|rfl|exact h.fail.elim
   obtain⟨ys,h,hsrc⟩:=zdm (P:=P) h;refine⟨_,m,h,rfl,fun G Os w zs ty' cs hzs hH hM=> ?_⟩;obtain⟨y1,zs,rfl,r1,hzs⟩:=hzs.head;obtain⟨y2,zs,rfl,r2,hzs⟩:=hzs.head;have:zs= []:=by simpa[LRelT]using hzs.1
   subst this;have hs:=hsrc G w y2 (r2.rel hy2) hH hM;cases (r1.rel rfl);obtain⟨xs,hxs,hf⟩:=hs.first 0 (Nat.zero_le _);obtain⟨te,hte⟩:=j8 hT ht (by simp) (u:=e) (by simp[TD.subs]);have hl:=hs.len w;have hmin:Nat.min ys.length 0=0:=Nat.min_zero _;refine⟨goInt (0:Nat),w,G,?_,.refl G w,hH,hM,(ze8 G 0).toT⟩;simp only[builtin,Builtin.copy_,List.getElem?_toArray,List.getElem?_cons_zero,List.getElem?_cons_succ,Sem.run_bind,run_underlying (hT.slice ht),Result.andThen_ok,hl,hT.size hte,hmin,hf w rfl,Sem.run_pure]
  ·exact h.fail.elim
 ·-- max
  rename_i tys v vs;obtain⟨p,hp,h⟩:=h.toP;obtain⟨u,hu,hn,hy,hr⟩:=yvf (P:=P) hp;simp only[Option.some.injEq]at hu;subst hu;refine⟨u,m,h,rfl,fun G Os w zs ty' cs hzs hH hM=> ?_⟩;obtain⟨y1,zs,rfl,r1,hzs⟩:=hzs.head;cases vs with
  |nil=>
   have:zs= []:=by simpa[LRelT]using hzs.1
   subst this;have hvu:u=v:=hn rfl;exact⟨y1,w,G,by simp[builtin,Builtin.max_],.refl G w,hH,hM,by rw[hvu];exact r1⟩
  |cons a l=>
   have hv:zm v=false:=hy (by simp) v (List.mem_cons_self ..);have hys:LRel G (a::l) zs:=⟨hzs.1,fun i c d hc hd=>(hzs.2 i c d hc hd).rel (hy (by simp) c (List.mem_cons_of_mem _ (List.mem_of_getElem? hc)))⟩;obtain⟨z,hz,hrz⟩:=hr G w y1 zs (r1.rel hv) hys;exact⟨z,w,G,by simp[builtin,Builtin.max_,hz],.refl G w,hH,hM,hrz.toT⟩
 ·-- min
  rename_i tys v vs;obtain⟨p,hp,h⟩:=h.toP;obtain⟨u,hu,hn,hy,hr⟩:=yva (P:=P) hp;simp only[Option.some.injEq]at hu;subst hu;refine⟨u,m,h,rfl,fun G Os w zs ty' cs hzs hH hM=> ?_⟩;obtain⟨y1,zs,rfl,r1,hzs⟩:=hzs.head;cases vs with
  |nil=>
   have:zs= []:=by simpa[LRelT]using hzs.1
   subst this;have hvu:u=v:=hn rfl;exact⟨y1,w,G,by simp[builtin,Builtin.min_],.refl G w,hH,hM,by rw[hvu];exact r1⟩
  |cons a l=>
   have hv:zm v=false:=hy (by simp) v (List.mem_cons_self ..);have hys:LRel G (a::l) zs:=⟨hzs.1,fun i c d hc hd=>(hzs.2 i c d hc hd).rel (hy (by simp) c (List.mem_cons_of_mem _ (List.mem_of_getElem? hc)))⟩;obtain⟨z,hz,hrz⟩:=hr G w y1 zs (r1.rel hv) hys;exact⟨z,w,G,by simp[builtin,Builtin.min_,hz],.refl G w,hH,hM,hrz.toT⟩
 ·-- delete
  rename_i id v t ts;split at h
  ·rename_i kt e ht
   have hv:zm v=false:=by
    cases v<;>first|rfl|(exfalso;have:=h.needP.1;simp[keyOk]at this)
   obtain⟨m1,h,hS,hr⟩:=xex (P:=P) hT ht h;refine⟨_,m1,h,hS,fun G Os w zs ty' cs hzs hH hM=> ?_⟩;obtain⟨y1,zs,rfl,r1,hzs⟩:=hzs.head;obtain⟨y2,zs,rfl,r2,hzs⟩:=hzs.head;have:zs= []:=by simpa[LRelT]using hzs.1
   subst this;obtain⟨y,w',G',e1,e2,e3,e4,e5⟩:=(hr G w y1 y2 (t::ts).toArray ty' (by simp) (r1.rel rfl) (r2.rel hv) hH hM).ex;exact⟨y,w',G',by simp[builtin,e1],e2,e3,e4,e5.toT⟩
  ·exact h.fail.elim
 ·-- clear
  rename_i id a n t ts;split at h
  ·rename_i e ht
   replace h:=h.isFz;split at h
   ·exact h.fail.elim
   ·rename_i hzb
    obtain⟨row,hr,hg⟩:=h.get;clear h;split at hg
    ·rename_i fl ety l
     have hb:=hg.needP.1;have h:=hg.needP.2;simp only[Bool.and_eq_true]at hb;obtain⟨hse,hz⟩:=hb;have hse:=Nat.eq_of_beq_eq_true hse;obtain⟨_,h⟩:=h.set;refine⟨_,_,h,rfl,fun G Os w zs ty' cs hzs hH hM=> ?_⟩;obtain⟨y1,zs,rfl,r1,hzs⟩:=hzs.head;have:zs= []:=by simpa[LRelT]using hzs.1
     subst this;obtain⟨g,hg,h1,h2,_⟩:=hH.rows id _ hr;cases (r1.rel rfl)with|sub _ _ _ ad cap hf hcb ha=>
     obtain⟨⟨hle,hlc,hroom⟩,⟨b1,o1,s1⟩,rfl,hb1,hs1,ho1⟩:=ha g hg;simp only at hb1 hs1 ho1;have ho1:n≠0→o1=a*g.sz:=fun h=>ho1 (by omega);subst hb1;subst hs1;obtain⟨zv,hzrun,hzrel⟩:=zo2 hT hz w;have hzs:=((hzrel G).el hz).1;have hzc:CellsRel G (flat (List.replicate n (T.zero e))) (Builtin.zeroCells zv.cells n) 0:=zn1 (hzrel G) hz fun i q y hi hq=>by rw[←hzs];exact yzu hi hq
     have hEz:∀v∈List.replicate n (T.zero e),zg (T.size e) v=true:=fun v hv=>by rw[(List.mem_replicate.1 hv).2];exact hz
     have hlx:=hzc.list
     have hsz:(Builtin.zeroCells zv.cells n).toList.length=(flat (List.replicate n (T.zero e))).length:=by
      rw[vx hEz,List.length_replicate,Array.length_toList,size_zeroCells,hzs]
     rw[List.drop_zero,←hsz,List.take_length]at hlx
     obtain⟨w',hst,hnil,s1,s2,s3⟩:=overwrite (P:=P) (fl':=fl&&pureV (T.zero e)) (zs:=List.replicate n (T.zero e)) hH hM hr hzb hg (h2.trans hse) hEz hlx (a:=a) (by rw[List.length_replicate,←h1];exact hle) (fun hp=>by
      simp only[Bool.and_eq_true]at hp;exact⟨hp.1,pureL_iff.2 fun v hv=>by rw[(List.mem_replicate.1 hv).2];exact hp.2⟩)
     rw[List.length_replicate]at s2;refine⟨.tuple #[],w',G,?_,s1,s2,s3,Rel.toT (LRel.toTup (a:= #[]) (LRel.nil G))⟩;by_cases hn:n=0
     ·subst hn
      have hw:w'=w:=hnil (by simp[Builtin.zeroCells,Array.range_zero']);rw[hw];simp[builtin,Builtin.clear_,run_underlying (hT.slice ht)]
     ·rw[ho1 hn,h2.trans hse]
      obtain⟨n',rfl⟩:∃n',n=n'+1:=⟨n- 1,by omega⟩;simp[builtin,Builtin.clear_,run_underlying (hT.slice ht),hzrun,hst]
    ·exact hg.fail.elim
  ·exact h.fail.elim
 ·-- clear of nothing
  rename_i nn sz t ts;split at h
  ·rename_i e ht
   refine⟨_,m,h,rfl,fun G Os w zs ty' cs hzs hH hM=> ?_⟩;obtain⟨y1,zs,rfl,r1,hzs⟩:=hzs.head;have:zs= []:=by simpa[LRelT]using hzs.1
   subst this;refine⟨.tuple #[],w,G,?_,.refl G w,hH,hM,Rel.toT (LRel.toTup (a:= #[]) (LRel.nil G))⟩;cases (r1.rel rfl)<;>simp[builtin,Builtin.clear_,run_underlying (hT.slice ht)]
  ·exact h.fail.elim
 ·exact h.fail.elim
end
section
variable {P:Program} {T:Tab} {slot:Option Nat} {m m':Mem} {x:V}
structure OpDoes (P:Program) (T:Tab) (m1:Mem) (v:V) (G:Gh) (Os:List OG) (w:World) (s:Sem Next):Prop where
 ex:∃nx y w' G',s.run P w= .ok nx w'∧(nx= .value y∨(nx= .skip∧y=Go.undef))∧Step G w G' w'∧HeapRel G' T w' m1.H m1.Fz∧MRel G' T w'∧RelT G' Os v y
theorem Does.op{G:Gh}{Os:List OG}{w:World}{s:Sem Value}{v:V}{m1:Mem}(h:Does P T m1 v G w s):OpDoes P T m1 v G Os w (do pure (.value (←s))):=by
 obtain⟨y,w',G',e1,e2,e3,e4,e5⟩:=h.ex;exact⟨.value y,y,w',G',by simp[e1],.inl rfl,e2,e3,e4,e5.toT⟩
theorem vm{G:Gh}{Os:List OG}{w:World}{s:Sem Value}{v:V}{y:Value}(hH:HeapRel G T w m.H m.Fz)(hM:MRel G T w)(hs:s.run P w= .ok y w)(hr:RelT G Os v y):OpDoes P T m v G Os w (do pure (.value (←s))):=
 ⟨.value y,y,w,G,by simp[hs],.inl rfl,.refl G w,hH,hM,hr⟩
theorem ym8{G:Gh}{Os:List OG}{w w':World}{s:Sem Value}{v:V}{y:Value}(hH:HeapRel G T w m.H m.Fz)(hM:MRel G T w)(hs:s.run P w= .ok y w')(hd:Drw w w')(hr:RelT G Os v y):OpDoes P T m v G Os w (do pure (.value (←s))):=by
 rcases hd with rfl|rfl
 ·exact vm hH hM hs hr
 ·exact⟨.value y,y,w.drew,G,by simp[hs],.inl rfl,⟨.refl G,Nat.le_refl _,fun _ h=> .inl h,fun _ _ h=> .inl h,fun _ _ _=>rfl,rfl,rfl⟩,
   ⟨fun id r h=>by have:=hH.rows id r h;revert this;cases r<;>exact fun h=>h,hH.out,hH.fz,hH.inj⟩,⟨hM.mem,hM.glob⟩,hr⟩
theorem OpDoes.frozen{G G1:Gh}{Os:List OG}{w:World}{s:Sem Next}{v:V}{m1 m2:Mem}(hf:Frozen T G w G1 m1)(h:OpDoes P T m2 v G1 Os w s):OpDoes P T m2 v G Os w s:=by
 obtain⟨nx,y,w',G',e1,e2,e3,e4,e5,e6⟩:=h.ex;exact⟨nx,y,w',G',e1,e2,hf.step.trans e3,e4,e5,e6⟩
def OpEnv(G:Gh)(Os:List OG)(ev:Operand→V)(ρ:Operand→Value):Prop:=∀y,RelT G Os (ev y) (ρ y)
theorem OpEnv.mono{G G':Gh}{Os:List OG}{ev:Operand→V}{ρ:Operand→Value}(hG:G.le G')(h:OpEnv G Os ev ρ):OpEnv G' Os ev ρ:=fun y=>(h y).mono hG
theorem ykz{G:Gh}{Os:List OG}{ev:Operand→V}{ρ:Operand→Value}(he:OpEnv G Os ev ρ):∀(ps:List (Nat×Operand)),(∀v∈ps.map (fun p=>ev p.2),zm v=false)→
  LRel G (ps.map fun p=>ev p.2) (ps.map fun p=>ρ p.2):=by
 intro ps hy;refine⟨by simp,fun i v y hv hx=> ?_⟩;rw[List.getElem?_map]at hv hx;cases hp:ps[i]? with
 |none=>rw[hp]at hv;cases hv
 |some p=>
  rw[hp]at hv hx;simp only[Option.map_some,Option.some.injEq]at hv hx;subst hv;subst hx;exact(he p.2).rel (hy _ (List.mem_map.2 ⟨p,List.mem_of_getElem? hp,rfl⟩))
theorem ymm{sizes:List (Nat×Nat)}:∀{parts:List (Nat×V)} {cs cs':List V},zaf sizes parts cs=some cs'→∀v∈parts.map (·.2),zm v=false:=by
 intro parts
 induction parts with
 |nil=>intro cs cs' h v hv;cases hv
 |cons p parts ih=>
  obtain⟨i,u⟩:=p;intro cs cs' h v hv;simp only[zaf]at h;split at h
  ·split at h
   ·rename_i hb
    simp only[Bool.and_eq_true]at hb;rcases List.mem_cons.1 hv with rfl|hv
    ·exact zho hb.1
    ·exact ih h v hv
   ·cases h
  ·cases h
theorem xar{n:Nat}:∀{parts:List (Nat×V)} {l l':List V},jo n parts l=some l'→∀v∈parts.map (·.2),zm v=false:=by
 intro parts
 induction parts with
 |nil=>intro l l' h v hv;cases hv
 |cons p parts ih=>
  obtain⟨i,u⟩:=p;intro l l' h v hv;simp only[jo]at h;split at h
  ·rename_i hb
   simp only[Bool.and_eq_true]at hb;rcases List.mem_cons.1 hv with rfl|hv
   ·exact zho hb.1
   ·exact ih h v hv
  ·cases h
theorem ymv{n:Nat}{t:TypeId}{k:Nat}{y:V}:eqT T n t (.yld k) y=none:=by
 cases n with
 |zero=>rfl
 |succ n=>simp only[eqT];cases T.td t<;>rfl
theorem xbe{n:Nat}{t:TypeId}{k:Nat}{y:V}:eqT T n t y (.yld k)=none:=by
 cases n with
 |zero=>rfl
 |succ n=>simp only[eqT];cases T.td t<;>cases y<;>rfl
theorem xim{α:Type}{op:BinOp}{t:TypeId}{a b:V}{k:V→Option α}{r:α}(h:xg T op t a b k=some r):zm a=false∧zm b=false:=by
 constructor
 ·cases a<;>first|rfl|(exfalso;cases op<;>simp[xg,ymv,zn]at h)
 ·cases b<;>first|rfl|(exfalso;cases a<;>cases op<;>simp[xg,ymv,xbe,zn]at h)
theorem yqu(hT:TabOk P T){raw:Bool}{t:TypeId}{a v:V}{k:Prog}(h:Res slot (zcy T raw t a v k) m x m'):
  ∃m1,Res slot k m1 x m'∧m1.S=m.S∧zm a=false∧zm v=false∧∀(G:Gh) (w:World) (y z:Value),Rel G a y→Rel G v z→HeapRel G T w m.H m.Fz→MRel G T w→
   ∃w' G',(Instr.storeAt t y z).run P w= .ok () w'∧Step G w G' w'∧HeapRel G' T w' m1.H m1.Fz∧MRel G' T w':=by
 have key:∀{b:Bool} {id i j:Nat} {v:V} {m:Mem},Res slot (storeAt T b id i j t v k) m x m'→zm v=false:=by
  intro b id i j v m h;unfold storeAt at h;obtain⟨r,hr,h⟩:=h.get;split at h
  ·obtain⟨p,hp,h⟩:=h.needP.2.toP
   obtain⟨old,_,hp⟩:=jb hp;have:=(xf hp).1;simp only[Bool.and_eq_true]at this;exact zho this.1
  ·exact h.fail.elim
 unfold zcy at h;split at h
 ·rename_i id i j
  replace h:=h.isFz;split at h
  ·exact h.fail.elim
  ·rename_i hz
   obtain⟨r,hr,h⟩:=h.get;split at h
   ·obtain⟨m1,h1,hS,hh⟩:=zkl (P:=P) hT h hz
    exact⟨m1,h1,hS,rfl,key h,fun G w y z hy hz' hH hM=>let⟨w',e1,e2,e3,e4⟩:=hh G w y z hy hz' hH hM;⟨w',G,e1,e2,e3,e4⟩⟩
   ·split at h
    ·obtain⟨m1,h1,hS,hh⟩:=zkl (P:=P) hT h hz
     exact⟨m1,h1,hS,rfl,key h,fun G w y z hy hz' hH hM=>let⟨w',e1,e2,e3,e4⟩:=hh G w y z hy hz' hH hM;⟨w',G,e1,e2,e3,e4⟩⟩
    ·obtain⟨v',m0,h,hS0,hk,hf⟩:=zkk _ _ _ _ _ h
     replace h:=h.isFz;split at h
     ·exact h.fail.elim
     ·rename_i hz0
      obtain⟨m1,h1,hS,hh⟩:=zkl (P:=P) hT h hz0;have hy0:=key h;rw[hk.yld]at hy0;refine⟨m1,h1,hS.trans hS0,rfl,hy0,fun G w y z hy hz' hH hM=> ?_⟩;obtain⟨G1,f1,hp,r1⟩:=hf G w hH hM;obtain⟨w',e1,e2,e3,e4⟩:=hh G1 w y z (hy.mono f1.step.le) (r1 z hz') f1.heap f1.mem;exact⟨w',G1,e1,f1.step.trans e2,e3,e4⟩
   ·exact h.fail.elim
 ·exact h.fail.elim
theorem ylp{t:TypeId}{a:V}{k:V→Prog}(h:Res slot (j9 T t a k) m x m'):zm a=false:=by
 cases a<;>first|rfl|exact h.fail.elim
theorem yyt{t:TypeId}{a:V}{i:Int}{k:V→Prog}(h:Res slot (zbk T t a i k) m x m'):zm a=false:=by
 cases a<;>first|rfl|(exfalso;unfold zbk at h;split at h;exact h.fail;exact h.needP.2.fail;exact h.fail)
theorem yre{t:TypeId}{a:V}{lo hi:Option V}{k:V→Prog}(h:Res slot (zba T t a lo hi k) m x m'):zm a=false∧(∀v,lo=some v→zm v=false)∧(∀v,hi=some v→zm v=false):=by
 have bd:∀{o:Option V} {d:Nat} {k:Nat→Prog},Res slot (yd o d k) m x m'→∀v,o=some v→zm v=false:=by
  intro o d k h v hv;obtain⟨n,_,h|h⟩:=jx h
  ·rw[h.1]at hv;cases hv
  ·rw[h]at hv;cases hv;rfl
 unfold zba at h;split at h
 ·obtain⟨n,h1,_⟩:=jx h;exact⟨rfl,bd h1,bd h⟩
 ·obtain⟨n,h1,_⟩:=jx h;exact⟨rfl,bd h1,bd h⟩
 ·obtain⟨r,_,h⟩:=h.get
  split at h
  ·obtain⟨n,h1,_⟩:=jx h;exact⟨rfl,bd h1,bd h⟩
  ·exact h.fail.elim
 ·obtain⟨r,_,h⟩:=h.get
  split at h
  ·obtain⟨n,h1,_⟩:=jx h;exact⟨rfl,bd h1,bd h⟩
  ·exact h.fail.elim
 ·split at h
  ·exact⟨rfl,(fun v hv=>by cases hv),(fun v hv=>by cases hv)⟩
  ·exact h.fail.elim
 ·exact h.fail.elim
theorem yrg{t:TypeId}{a hi mx:V}{lo:Option V}{k:V→Prog}(h:Res slot (zef T t a lo hi mx k) m x m'):zm a=false∧(∀v,lo=some v→zm v=false)∧zm hi=false∧zm mx=false:=by
 have bd:∀{o:Option V} {d:Nat} {k:Nat→Prog},Res slot (yd o d k) m x m'→∀v,o=some v→zm v=false:=by
  intro o d k h v hv;obtain⟨n,_,h|h⟩:=jx h
  ·rw[h.1]at hv;cases hv
  ·rw[h]at hv;cases hv;rfl
 unfold zef at h;split at h
 ·obtain⟨r,_,h⟩:=h.get
  split at h
  ·obtain⟨n,h1,_⟩:=jx h
   obtain⟨n2,h2,_⟩:=jx h1;exact⟨rfl,bd h2,bd h1 _ rfl,bd h _ rfl⟩
  ·exact h.fail.elim
 ·exact h.fail.elim
theorem xau{α:Type}{t:TypeId}{a:V}{f:Nat}{k:V→Option α}{r:α}(h:zcb T t a f k=some r):zm a=false:=by
 cases a<;>first|rfl|(exfalso;unfold zcb at h;split at h;split at h;exact absurd (xf h).2 (by simp);cases h;cases h)
theorem yqi{α:Type}{op:UnOp}{a:V}{k:V→Option α}{r:α}(h:unK op a k=some r):zm a=false:=by
 cases a<;>first|rfl|(exfalso;cases op<;>simp[unK]at h)
theorem xfj{α:Type}{s d:TypeId}{a:V}{k:V→Option α}{r:α}(h:zaz T s d a k=some r):zm a=false:=by
 unfold zaz at h;split at h<;>first|rfl|cases h
end
end Go.Den
