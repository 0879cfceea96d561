import Derived.Test.YtjiidembdmfikaaGreatDoorZM
set_option linter.all false
set_option maxHeartbeats 8000000
set_option maxRecDepth 100000
namespace Go.Den
open Go
structure IhApx (L:Ih) (F:Nat→Ih):Prop where
 call:∀f args H Fz S r,L.call f args H Fz S=some r→∃N,∀n,N≤n→(F n).call f args H Fz S=some r
 loop:∀rnd items st r,L.loop rnd items st=some r→∃N,∀n,N≤n→(F n).loop rnd items st=some r
 yld:∀d args S r,L.yld d args S=some r→∃N,∀n,N≤n→(F n).yld d args S=some r
def PA(L:Ih)(F:Nat→Ih)(p:Ih→Prog):Prop:=∀slot m r,(p L).run slot m=some r→∃N,∀n,N≤n→(p (F n)).run slot m=some r
def OA{α:Type}(L:Ih)(F:Nat→Ih)(p:Ih→Option α):Prop:=∀r,p L=some r→∃N,∀n,N≤n→p (F n)=some r
theorem zf6{g:FP}{o:Option (V×Mem×FP)}{r:V×Mem×FP}(h:xo g o=some r):∃q,o=some q∧∀o',o'=some q→xo g o'=some r:=by
 cases o with
 |none=>cases h
 |some q=>exact⟨q,rfl,fun o' ho=>by rw[ho];exact h⟩
section
variable {L:Ih} {F:Nat→Ih} {T:Tab}
theorem PA.const(p:Prog):PA L F fun _=>p:=fun slot m r h=>⟨0,fun n _=>h⟩
theorem PA.get{id:Nat}{p:Ih→Row→Prog}(h:∀r,PA L F fun ih=>p ih r):PA L F fun ih=> .get id (p ih):=by
 intro slot m r hr;simp only[Prog.run]at hr;cases hrow:m.H[id]? with
 |none=>rw[hrow]at hr;cases hr
 |some row=>
  rw[hrow]at hr;obtain⟨q,h1,h2⟩:=zf6 hr;obtain⟨N,hN⟩:=h row slot m q h1;exact⟨N,fun n hn=>by simp only[Prog.run,hrow];exact h2 _ (hN n hn)⟩
theorem PA.isFz{id:Nat}{p:Ih→Bool→Prog}(h:∀r,PA L F fun ih=>p ih r):PA L F fun ih=> .isFz id (p ih):=by
 intro slot m r hr;simp only[Prog.run]at hr;obtain⟨q,h1,h2⟩:=zf6 hr;obtain⟨N,hN⟩:=h _ slot m q h1;exact⟨N,fun n hn=>by simp only[Prog.run];exact h2 _ (hN n hn)⟩
theorem PA.frz{id:Nat}{p:Ih→Prog}(h:PA L F p):PA L F fun ih=> .frz id (p ih):=by
 intro slot m r hr;simp only[Prog.run]at hr;obtain⟨q,h1,h2⟩:=zf6 hr;obtain⟨N,hN⟩:=h slot _ q h1;exact⟨N,fun n hn=>by simp only[Prog.run];exact h2 _ (hN n hn)⟩
theorem PA.set{id:Nat}{row:Row}{p:Ih→Prog}(h:PA L F p):PA L F fun ih=> .set id row (p ih):=by
 intro slot m r hr;simp only[Prog.run]at hr;cases hb:Nat.blt id m.H.length with
 |false=>rw[hb]at hr;cases hr
 |true=>
  rw[hb]at hr;obtain⟨q,h1,h2⟩:=zf6 hr;obtain⟨N,hN⟩:=h slot _ q h1;exact⟨N,fun n hn=>by simp only[Prog.run,hb];exact h2 _ (hN n hn)⟩
theorem PA.stk{p:Ih→xb→Prog}(h:∀r,PA L F fun ih=>p ih r):PA L F fun ih=> .stk (p ih):=by
 intro slot m r hr;simp only[Prog.run]at hr;obtain⟨q,h1,h2⟩:=zf6 hr;obtain⟨N,hN⟩:=h _ slot m q h1;exact⟨N,fun n hn=>by simp only[Prog.run];exact h2 _ (hN n hn)⟩
theorem PA.optP{β:Type}{o:Option β}{k:Ih→β→Prog}(h:∀v,PA L F fun ih=>k ih v):PA L F fun ih=>optP o (k ih):=by
 cases o with
 |none=>exact .const .fail
 |some v=>exact h v
theorem PA.needP{b:Bool}{p:Ih→Prog}(h:PA L F p):PA L F fun ih=>needP b (p ih):=by
 cases b with
 |false=>exact .const .fail
 |true=>exact h
theorem PA.ask{β:Type}{o:Ih→Option β}{k:Ih→β→Prog}(ho:OA L F o)(h:∀v,PA L F fun ih=>k ih v):PA L F fun ih=>Den.optP (o ih) (k ih):=by
 intro slot m r hr;cases hq:o L with
 |none=>simp only[hq,Den.optP,Prog.run]at hr;cases hr
 |some v=>
  simp only[hq,Den.optP]at hr;obtain⟨N1,h1⟩:=ho v hq;obtain⟨N2,h2⟩:=h v slot m r hr;exact⟨max N1 N2,fun n hn=>by simp only[h1 n (by omega),Den.optP];exact h2 n (by omega)⟩
theorem PA.frzLP{fr:V→(V→Prog)→Prog}(hf:∀v (k:Ih→V→Prog),(∀u,PA L F fun ih=>k ih u)→PA L F fun ih=>fr v (k ih)):∀(l:List V) (k:Ih→List V→Prog),(∀u,PA L F fun ih=>k ih u)→PA L F fun ih=>Den.frzLP fr l (k ih):=by
 intro l
 induction l with
 |nil=>intro k h;exact h []
 |cons v r ih=>intro k h;exact hf v _ fun v'=>ih _ fun r'=>h (v'::r')
theorem PA.frzP:∀(n:Nat) (v:V) (k:Ih→V→Prog),(∀u,PA L F fun ih=>k ih u)→PA L F fun ih=>Den.frzP T n v (k ih):=by
 intro n
 induction n with
 |zero=>intro v k h;exact .const .fail
 |succ n ihn=>
  have row:∀(id:Nat) (k:Ih→Nat→List V→Prog),(∀z l,PA L F fun ih=>k ih z l)→PA L F fun ih=>wa T (Den.frzP T n) id (k ih):=by
   intro id k h;refine .get fun r=> ?_;cases r with
   |cells b fl ty l=>
    cases fl with
    |true=>exact .optP fun i=> .frz (h _ _)
    |false=>exact PA.frzLP ihn l _ fun l'=> .optP fun i=> .set (.frz (h _ _))
   |_=>exact .const .fail
  intro v k h;cases v with
  |ref id=>exact row id _ fun z l=>h _
  |sub id a b=>exact row id (fun ih z l=>k ih (.sl true z ((l.drop a).take b))) fun z l=>h _
  |ptr id i j=>exact row id (fun ih z l=>k ih (.pp z l i j)) fun z l=>h _
  |map id=>exact .const .fail
  |it id=>exact .const .fail
  |fn f c=>exact PA.frzLP ihn c _ fun c'=>h _
  |iface t v=>exact ihn v _ fun v'=>h _
  |agg cs=>exact PA.frzLP ihn cs _ fun c'=>h _
  |tup cs=>exact PA.frzLP ihn cs _ fun c'=>h _
  |_=>exact h _
theorem PA.stowLP{l:List V}{k:Ih→List V→Prog}(h:∀u,PA L F fun ih=>k ih u):PA L F fun ih=>Den.stowLP T l (k ih):=by
 unfold Den.stowLP;cases pureL l with
 |true=>exact h l
 |false=>exact PA.frzLP (PA.frzP zb9) l _ h
theorem PA.reachP:∀{n:Nat} {work seen:List Nat} {k:Ih→List Nat→Prog},(∀u,PA L F fun ih=>k ih u)→PA L F fun ih=>Den.reachP n work seen (k ih):=by
 intro n
 induction n with
 |zero=>intro work seen k h;exact .const .fail
 |succ n ih=>
  intro work seen k h;cases work with
  |nil=>exact h _
  |cons id w=>
   show PA L F fun ih=>(match seen.any (Nat.beq id)with
    |true=>Den.reachP n w seen (k ih)
    |false=> .get id fun r=>(match r with
     | .cells _ false _ l=>Den.reachP n (zi l++w) (id::seen) (k ih)
     |_=>Den.reachP n w (id::seen) (k ih)):Prog)
   cases seen.any (Nat.beq id)with
   |true=>exact ih h
   |false=>
    refine .get fun r=> ?_;cases r with
    |cells b f t l=>cases f with
     |true=>exact ih h
     |false=>exact ih h
    |_=>exact ih h
theorem PA.maskP:∀{ids:List Nat} {n mm:Nat} {k:Ih→Nat→Prog},(∀u,PA L F fun ih=>k ih u)→PA L F fun ih=>Den.maskP ids n mm (k ih):=by
 intro ids
 induction ids with
 |nil=>intro n mm k h;exact h _
 |cons id r ih=>intro n mm k h;exact .isFz fun z=>ih h
theorem PA.rowsP:∀{ids:List Nat} {acc:zj} {k:Ih→zj→Prog},(∀u,PA L F fun ih=>k ih u)→PA L F fun ih=>Den.rowsP ids acc (k ih):=by
 intro ids
 induction ids with
 |nil=>intro acc k h;exact h _
 |cons id r ih=>intro acc k h;exact .get fun row=>ih h
theorem PA.withStk{y:Bool}{p:Ih→xb→(xb→Prog→Prog)→Prog}(h:∀S b,PA L F fun ih=>p ih S b):PA L F fun ih=>Den.withStk y (p ih):=by
 cases y with
 |true=>exact .stk fun S=>h S _
 |false=>exact h [] _
variable (hI:IhApx L F)
include hI
theorem PA.callP{f:FuncId}{args:List V}{k:V→Prog}:PA L F fun ih=>Den.callP ih T f args k:=by
 unfold Den.callP;cases T.byref f with
 |true=>
  exact .reachP fun ids=> .maskP fun Fz=> .rowsP fun rows=> .withStk fun S b=> .ask (fun r h=>hI.call _ _ _ _ _ r h) fun r=> .const _
 |false=>
  refine .stowLP fun args=> ?_;cases T.prim f with
  |some p=>exact .const _
  |none=>exact .withStk fun S b=> .ask (fun r h=>hI.call _ _ _ _ _ r h) fun r=> .const _
theorem PA.callV{fv:V}{args:List V}{k:V→Prog}:PA L F fun ih=>Den.callV ih T fv args k:=by
 unfold Den.callV;cases fv with
 |fn f cap=>exact PA.callP hI
 |yld n=>exact .stowLP fun args=> .needP (.stk fun S=> .ask (fun r h=>hI.yld _ _ _ r h) fun r=> .const _)
 |_=>exact .const .fail
theorem PA.opP{raw:Bool}{ev:Operand→V}{o:Oper}:PA L F fun ih=>Den.opP ih T raw ev o:=by
 obtain⟨dst,op,type,pos,after,guard⟩:=o;by_cases hc:∃c,op= .call c
 ·obtain⟨c,rfl⟩:=hc
  show PA L F fun ih=>(match c.callee with
   | .value (.func f)=>Den.callP ih T f (c.args.toList.map ev) .ret
   | .value x=>Den.callV ih T (ev x) (c.args.toList.map ev) .ret
   | .builtin b=>jy T b c.argTypes.toList (c.args.toList.map ev) .ret
   |_=> .fail:Prog)
  split
  ·exact PA.callP hI
  ·exact PA.callV hI
  ·exact .const _
  ·exact .const _
 ·intro slot m r h
  refine⟨0,fun n _=> ?_⟩;rw[←h];cases op<;>first|rfl|(exfalso;exact hc ⟨_,rfl⟩)|(unfold Den.opP;dsimp only;split<;>first|rfl|(rename_i hcc;cases hcc))
end
end Go.Den
