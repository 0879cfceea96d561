import GoSem.Machine.Exec
import GoSem.Core.Utf8
set_option linter.all false
set_option maxHeartbeats 8000000
set_option maxRecDepth 100000
namespace Go.Den
open Go
inductive V where
 |undef
 |bool (b:Bool)|int (k:IntKind) (n:Int)|flt (k:FloatKind) (b:Nat)|cpl (k:FloatKind) (re im:Nat)
 |str (s:List UInt8)
 |nilp|nilm|nilf|nili
 |sl (nn:Bool) (sz:Nat) (l:List V)
 |pp (sz:Nat) (l:List V) (i j:Nat)
 |ref (id:Nat)
 |sub (id off len:Nat)
 |ptr (id i j:Nat)
 |map (id:Nat)
 |it (id:Nat)
 |glob (g j:Nat)
 |fn (f:FuncId) (cap:List V)
 |yld (n:Nat)
 |iface (t:TypeId) (v:V)
 |agg (cs:List V)
 |tup (vs:List V)
 deriving Inhabited
inductive Row where
 |free
 |dead
 |cells (box flat:Bool) (ty:TypeId) (l:List V)
 |map (es:List (V×V))
 |siter (s:List UInt8) (pos:Nat)
 |miter (x:V) (n:Nat) (cur:Bool)
 deriving Inhabited
abbrev Env:=List (Nat×V)
abbrev zj:=List Row
inductive TD where
 |bool|int (k:IntKind)|float (k:FloatKind)|complex (k:FloatKind)|string
 |slice (e:TypeId)|array (n:Nat) (e:TypeId)|map (k e:TypeId)|struct (fs:List (Nat×TypeId))|ptr (e:TypeId)
 |func|iface|tuple (ts:List TypeId)|other
 deriving Inhabited
structure TI where
 td:TD
 size:Nat
 bytes:Nat
 zero:V
 eqok:Bool
structure Own where
 fn:FuncId
 nt:Nat
 env:Env
 H:zj
 Fz:Nat
 ps:List Nat
 assign:Code
 body:Code
 done:Bool
 pending:Option Code
 fp:Nat
abbrev xb:=List Own
structure St where
 fn:FuncId
 nt:Nat
 fp:Nat
 env:Env
 H:zj
 Fz:Nat
 S:xb
def St.withH:St→zj→St
 |⟨fn,nt,fp,env,_,Fz,S⟩,H=>⟨fn,nt,fp,env,H,Fz,S⟩
def St.put:St→Option Nat→V→St
 |st,none,_=>st
 |⟨fn,nt,fp,env,H,Fz,S⟩,some t,v=>⟨fn,nt,fp,(t,v)::env,H,Fz,S⟩
structure Tab where
 ti:TypeId→Option TI
 fn:FuncId→Option Func
 byref:FuncId→Bool
 raw:FuncId→Bool
 glob:Nat→Option (List V)
 keep:FuncId→Nat→Option (List Nat)
 prim:FuncId→Option (List V→Option V)
  /-- the pairs of operations of a region that draws which no edge orders -/
 pairs:FuncId→Nat→List (Nat×Nat)
inductive Fin where
 |ret (v:V)
 |round (jump:Option Code)
abbrev Out:=Fin×zj×Nat×xb
structure Ih where
 loop:Bool→List Item→St→Option Out
 call:FuncId→List V→zj→Nat→xb→Option (V×zj×Nat×xb)
 yld:Nat→List V→xb→Option (Bool×xb)
structure FP where
 rd:Nat
 wr:Nat
 fr:Nat
 sk:Bool
def FP.none:FP:=⟨0,0,0,false⟩
def bit(i:Nat):Nat:=1<<<i
def lookup{α:Type}(t:Nat):List (Nat×α)→Option α
 | []=>none
 |(u,v)::r=>match Nat.beq u t with|true=>some v|false=>lookup t r
def xx(env:Env)(t:Nat):V:=match lookup t env with|some v=>v|none=> .undef
def cellsOf:V→List V
 | .agg cs=>cs
 |v=> [v]
def isCell:V→Bool
 | .undef| .agg _| .tup _| .yld _=>false
 |_=>true
def zg(n:Nat):V→Bool
 | .agg cs=>Nat.beq cs.length n&&cs.all isCell
 |v=>Nat.beq n 1&&isCell v
def za3:Value→V
 | .bool b=> .bool b
 | .int k n=> .int k n
 | .float k b=> .flt k b
 | .complex k a b=> .cpl k a b
 | .string s=> .str s.data.toList
 | .pointer none=> .nilp
 | .slice none 0 0=> .sl false 0 []
 | .map none=> .nilm
 | .nilFunc=> .nilf
 | .nilIface=> .nili
 | .func (.func f) ⟨[]⟩ ⟨[]⟩=> .fn f []
 |_=> .undef
def q7:Value→V
 | .agg cs=> .agg (cs.toList.map za3)
 |v=>za3 v
def St.eval(st:St):Operand→V
 | .tmp t=>match lookup t st.env with|some v=>v|none=> .undef
 | .const v=>q7 v
 | .global g=> .glob g 0
 | .func f=> .fn f []
mutual
def xz(g:Nat→Nat):V→V
 | .ref x=> .ref (g x)
 | .sub x a b=> .sub (g x) a b
 | .ptr x i j=> .ptr (g x) i j
 | .map x=> .map (g x)
 | .it x=> .it (g x)
 | .fn f c=> .fn f (x9 g c)
 | .iface t v=> .iface t (xz g v)
 | .agg cs=> .agg (x9 g cs)
 | .tup vs=> .tup (x9 g vs)
 |v=>v
def x9(g:Nat→Nat):List V→List V
 | []=> []
 |v::r=>xz g v::x9 g r
end
mutual
def idsV:V→List Nat
 | .ref x=> [x]
 | .sub x _ _=> [x]
 | .ptr x _ _=> [x]
 | .map x=> [x]
 | .it x=> [x]
 | .fn _ c=>zi c
 | .iface _ v=>idsV v
 | .agg cs=>zi cs
 | .tup vs=>zi vs
 |_=> []
def zi:List V→List Nat
 | []=> []
 |v::r=>idsV v++zi r
end
def zm:V→Bool
 | .yld _=>true
 |_=>false
def z9:List V→Bool
 | []=>false
 |v::r=>zm v||z9 r
def pureV(v:V):Bool:=(idsV v).isEmpty
def pureL(l:List V):Bool:=(zi l).isEmpty
def qg(g:Nat→Nat):Row→Row
 | .cells b f t l=>match f with|true=> .cells b f t l|false=> .cells b f t (x9 g l)
 |r=>r
def reach:Nat→List Nat→List Nat→zj→Option (List Nat)
 |0,_,_,_=>none
 |n+1,work,seen,H=>match work with
  | []=>some seen.reverse
  |id::w=>match seen.any (Nat.beq id)with
   |true=>reach n w seen H
   |false=>match H[id]? with
    |some (.cells _ false _ l)=>reach n (zi l++w) (id::seen) H
    |some _=>reach n w (id::seen) H
    |none=>none
def idx(l:List Nat)(x:Nat):Nat:=match l with
 | []=>0
 |y::r=>match Nat.beq y x with|true=>0|false=>idx r x+1
def pick(H:zj):List Nat→zj
 | []=> []
 |id::r=>(match H[id]? with|some x=>x|none=> .dead)::pick H r
def xh(g:Nat→Nat):zj→zj
 | []=> []
 |r::rs=>qg g r::xh g rs
def mask(ids:List Nat)(Fz:Nat):Nat→Nat
 |n=>match ids with
  | []=>0
  |id::r=>cond (Fz.testBit id) (bit n) 0|||mask r Fz (n+1)
def jm:List Nat→List Nat→Bool
 | [],[]=>true
 |a::r,b::s=>Nat.beq a b&&jm r s
 |_,_=>false
def zam:zj→List Nat
 | []=> []
 | .cells _ false _ l::r=>zi l++zam r
 |_::r=>zam r
def gc(ks:List Nat)(st:St):Option St:=
 match st with
 |⟨fn,nt,fp,env,H,Fz,S⟩=>
  let vs:=ks.map (xx env)
  (reach 10000 (List.range fp++zi vs) [] H).bind fun ids=>
   match jm (ids.take fp) (List.range fp)with
   |true=>some ⟨fn,nt,fp,ks.zip (x9 (idx ids) vs),xh (idx ids) (pick H ids),mask ids Fz 0,S⟩
   |false=>(match Nat.ble fp H.length with
    |true=>(reach 10000 (zam (H.take fp)++zi vs) (List.range fp).reverse H).bind fun ids=>
     (match jm (ids.take fp) (List.range fp)with
     |true=>some ⟨fn,nt,fp,ks.zip (x9 (idx ids) vs),xh (idx ids) (pick H ids),mask ids Fz 0,S⟩
     |false=>none)
    |false=>none)
def br{α:Type}(b:Bool)(x y:α):α:=match b with|true=>x|false=>y
section
variable {α:Type}
def need(b:Bool)(k:Option α):Option α:=match b with|true=>k|false=>none
def zn{β:Type}(o:Option β)(k:β→Option α):Option α:=match o with|some v=>k v|none=>none
def asBool(v:V)(k:Bool→Option α):Option α:=match v with| .bool b=>k b|_=>none
def asInt(v:V)(k:IntKind→Int→Option α):Option α:=match v with| .int i n=>k i n|_=>none
def ug(kd:IntKind)(v:V)(k:Int→Option α):Option α:=match v with| .int i n=>(match decide (i=kd)with|true=>k n|false=>none)|_=>none
def zj0(kd:FloatKind)(v:V)(k:Nat→Option α):Option α:=match v with| .flt i n=>(match decide (i=kd)with|true=>k n|false=>none)|_=>none
def zd6(v:V)(k:List UInt8→Option α):Option α:=match v with| .str s=>k s|_=>none
def asAgg(v:V)(k:List V→Option α):Option α:=match v with| .agg cs=>k cs|_=>none
def zaj(v:V)(k:List V→Option α):Option α:=match v with| .tup cs=>k cs|_=>none
def v5(sz:Nat)(v:V)(k:Bool→List V→Option α):Option α:=match v with
 | .sl nn z l=>(match (Nat.beq z sz|| !nn)with|true=>k nn l|false=>none)
 |_=>none
def get(l:List V)(i:Nat)(k:V→Option α):Option α:=match l[i]? with|some v=>k v|none=>none
def Tab.size(T:Tab)(t:TypeId):Nat:=match T.ti t with|some i=>i.size|none=>0
def Tab.bytes(T:Tab)(t:TypeId):Nat:=match T.ti t with|some i=>i.bytes|none=>0
def Tab.isAgg(T:Tab)(t:TypeId):Bool:=match T.ti t with|some i=>(match i.td with| .struct _| .array _ _=>true|_=>false)|none=>false
def Tab.zero(T:Tab)(t:TypeId):V:=match T.ti t with|some i=>i.zero|none=> .undef
def Tab.td(T:Tab)(t:TypeId):TD:=match T.ti t with|some i=>i.td|none=> .other
def shFields(T:Tab)(sh:TypeId→V→(V→Option α)→Option α):List (Nat×TypeId)→List V→List V→(List V→Option α)→Option α
 | [],_,acc,k=>k acc
 |(_,t)::fs,cs,acc,k=>match T.isAgg t with
  |true=>sh t (.agg (cs.take (T.size t))) fun w=>asAgg w fun ws=>shFields T sh fs (cs.drop (T.size t)) (acc++ws) k
  |false=>get cs 0 fun c=>sh t c fun w=>shFields T sh fs (cs.drop 1) (acc++ [w]) k
def shElems(T:Tab)(sh:TypeId→V→(V→Option α)→Option α)(e:TypeId):Nat→List V→List V→(List V→Option α)→Option α
 |0,_,acc,k=>k acc
 |m+1,cs,acc,k=>match T.isAgg e with
  |true=>sh e (.agg (cs.take (T.size e))) fun w=>asAgg w fun ws=>shElems T sh e m (cs.drop (T.size e)) (acc++ws) k
  |false=>get cs 0 fun c=>sh e c fun w=>shElems T sh e m (cs.drop 1) (acc++ [w]) k
def shParts(sh:TypeId→V→(V→Option α)→Option α):List TypeId→List V→List V→(List V→Option α)→Option α
 | [],_,acc,k=>k acc
 |t::ts,vs,acc,k=>get vs 0 fun c=>sh t c fun w=>shParts sh ts (vs.drop 1) (acc++ [w]) k
def shape(T:Tab):Nat→TypeId→V→(V→Option α)→Option α
 |0=>fun _ _ _=>none
 |n+1=>fun t v k=>match T.td t with
   | .int kd=>ug kd v fun i=>k (.int kd i)
   | .bool=>asBool v fun b=>k (.bool b)
   | .string=>zd6 v fun s=>k (.str s)
   | .float kd=>zj0 kd v fun s=>k (.flt kd s)
   | .slice e=>(match v with
    | .ref _| .sub _ _ _=>k v
    |v=>v5 (T.size e) v fun b l=>k (.sl b (T.size e) l))
   | .struct fs=>asAgg v fun cs=>need (Nat.beq cs.length (T.size t)) (shFields T (shape T n) fs cs [] fun r=>need (Nat.beq r.length (T.size t)) (k (.agg r)))
   | .array len e=>asAgg v fun cs=>need (Nat.beq cs.length (T.size t)) (shElems T (shape T n) e len cs [] fun r=>need (Nat.beq r.length (T.size t)) (k (.agg r)))
   | .tuple ts=>zaj v fun vs=>need (Nat.beq vs.length ts.length) (shParts (shape T n) ts vs [] fun r=>k (.tup r))
   |_=>k v
def shD:Nat:=6
end
def wu(T:Tab)(eq:TypeId→V→V→Option Bool):List (Nat×TypeId)→List V→List V→Option Bool
 | [],_,_=>some true
 |(o,t)::fs,xs,ys=>
  let p (cs:List V):Option V:=match T.isAgg t with|true=>some (.agg ((cs.drop o).take (T.size t)))|false=>cs[o]?
  match p xs,p ys with
  |some a,some b=>(match eq t a b with
   |some r=>(match wu T eq fs xs ys with|some s=>some (r&&s)|none=>none)
   |none=>none)
  |_,_=>none
def wg(T:Tab)(eq:TypeId→V→V→Option Bool)(e:TypeId):Nat→Nat→List V→List V→Option Bool
 |0,_,_,_=>some true
 |m+1,i,xs,ys=>
  let p (cs:List V):Option V:=match T.isAgg e with|true=>some (.agg ((cs.drop (i*T.size e)).take (T.size e)))|false=>cs[i*T.size e]?
  match p xs,p ys with
  |some a,some b=>(match eq e a b with
   |some r=>(match wg T eq e m (i+1) xs ys with|some s=>some (r&&s)|none=>none)
   |none=>none)
  |_,_=>none
def eqT(T:Tab):Nat→TypeId→V→V→Option Bool
 |0=>fun _ _ _=>none
 |n+1=>fun t x y=>match T.td t,x,y with
  | .bool,.bool a,.bool b=>some (a==b)
  | .int _,.int k a,.int k' b=>(match decide (k=k')with|true=>some (a==b)|false=>none)
  | .float _,.flt k a,.flt k' b=>(match decide (k=k')with|true=>some (Op.floatEq k a b)|false=>none)
  | .complex _,.cpl k a b,.cpl k' c d=>(match decide (k=k')with|true=>some (Op.floatEq k a c&&Op.floatEq k b d)|false=>none)
  | .string,.str a,.str b=>some (a==b)
  | .slice _,.ref _,.sl false _ _=>some false
  | .slice _,.sub _ _ _,.sl false _ _=>some false
  | .slice _,.sl a _ _,.sl false _ _=>some (!a)
  | .slice _,.sl false _ _,.sl b _ _=>some (!b)
  | .map _ _,.nilm,.nilm=>some true
  | .func,.nilf,.nilf=>some true
  | .func,.fn _ _,.nilf=>some false
  | .ptr _,.nilp,.nilp=>some true
  | .struct fs,.agg as,.agg bs=>(match T.ti t with
   |some i=>(match i.eqok with|true=>wu T (eqT T n) fs as bs|false=>none)
   |none=>none)
  | .array m e,.agg as,.agg bs=>(match T.ti t with
   |some i=>(match i.eqok with|true=>wg T (eqT T n) e m 0 as bs|false=>none)
   |none=>none)
  |_,_,_=>none
def kp:Nat:=5
def arith(k:IntKind)(op:BinOp)(a b:Int):Option V:=
 match op with
 | .add=>some (.int k (k.wrap (a+b)))
 | .sub=>some (.int k (k.wrap (a- b)))
 | .mul=>some (.int k (k.wrap (a*b)))
 | .and=>some (.int k (k.wrap (BitVec.ofInt k.bits a&&&BitVec.ofInt k.bits b).toNat))
 | .or=>some (.int k (k.wrap (BitVec.ofInt k.bits a|||BitVec.ofInt k.bits b).toNat))
 | .xor=>some (.int k (k.wrap (BitVec.ofInt k.bits a^^^BitVec.ofInt k.bits b).toNat))
 | .andNot=>some (.int k (k.wrap (BitVec.ofInt k.bits a&&& ~~~(BitVec.ofInt k.bits b)).toNat))
 | .eql=>some (.bool (a==b))
 | .neq=>some (.bool (a !=b))
 | .lss=>some (.bool (decide (a<b)))
 | .leq=>some (.bool (decide (a≤b)))
 | .gtr=>some (.bool (decide (a>b)))
 | .geq=>some (.bool (decide (a≥b)))
 |_=>none
def qn:FloatKind→Nat
 | .f32=>0x7fc00000
 | .f64=>0x7ff8000000000000
def znj(k:FloatKind)(op:BinOp)(a b:Nat):Option V:=
 match op with
 | .add=>(match k.format.add a b with|some r=>some (.flt k r)|none=>some (.flt k (qn k)))
 | .sub=>(match k.format.sub a b with|some r=>some (.flt k r)|none=>some (.flt k (qn k)))
 | .mul=>(match k.format.mul a b with|some r=>some (.flt k r)|none=>some (.flt k (qn k)))
 | .quo=>(match k.format.div a b with|some r=>some (.flt k r)|none=>some (.flt k (qn k)))
 | .eql=>some (.bool (k.format.order a b==some .eq))
 | .neq=>some (.bool (k.format.order a b !=some .eq))
 | .lss=>some (.bool (k.format.order a b==some .lt))
 | .leq=>some (.bool (k.format.order a b==some .lt||k.format.order a b==some .eq))
 | .gtr=>some (.bool (k.format.order a b==some .gt))
 | .geq=>some (.bool (k.format.order a b==some .gt||k.format.order a b==some .eq))
 |_=>none
def zhg:Nat:=1099511627776
inductive Prog where
 |ret (v:V)
 |fail
 |get (id:Nat) (k:Row→Prog)
 |set (id:Nat) (r:Row) (k:Prog)
 |isFz (id:Nat) (k:Bool→Prog)
 |frz (id:Nat) (k:Prog)
 |base (k:Nat→Prog)
 |new (r:Row) (k:Prog)
 |stk (k:xb→Prog)
 |setStk (s:xb) (k:Prog)
structure Mem where
 H:zj
 Fz:Nat
 S:xb
def Prog.go{α:Type}(slot:Option Nat):Prog→zj→Nat→xb→FP→(V→zj→Nat→xb→FP→Option α)→Option α
 | .ret v,H,Fz,S,fp,k=>k v H Fz S fp
 | .fail,_,_,_,_,_=>none
 | .get id p,H,Fz,S,⟨rd,wr,fr,sk⟩,k=>match H[id]? with
  |some r=>(p r).go slot H Fz S ⟨rd|||bit id,wr,fr,sk⟩ k
  |none=>none
 | .set id r p,H,Fz,S,⟨rd,wr,fr,sk⟩,k=>match Nat.blt id H.length with
  |true=>p.go slot (H.set id r) Fz S ⟨rd,wr|||bit id,fr,sk⟩ k
  |false=>none
 | .isFz id p,H,Fz,S,⟨rd,wr,fr,sk⟩,k=>(p (Fz.testBit id)).go slot H Fz S ⟨rd,wr|||bit id,fr,sk⟩ k
 | .frz id p,H,Fz,S,⟨rd,wr,fr,sk⟩,k=>p.go slot H (Fz|||bit id) S ⟨rd,wr,fr|||bit id,sk⟩ k
 | .base p,H,Fz,S,fp,k=>match slot with
  |none=>(p H.length).go slot H Fz S fp k
  |some i=>(p i).go slot H Fz S fp k
 | .new r p,H,Fz,S,⟨rd,wr,fr,sk⟩,k=>match slot with
  |none=>p.go slot (H++ [r]) Fz S ⟨rd,wr,fr,sk⟩ k
  |some i=>match H[i]? with
   |some .free=>p.go slot (H.set i r) Fz S ⟨rd,wr|||bit i,fr,sk⟩ k
   |_=>none
 | .stk p,H,Fz,S,⟨rd,wr,fr,_⟩,k=>(p S).go slot H Fz S ⟨rd,wr,fr,true⟩ k
 | .setStk s p,H,Fz,_,⟨rd,wr,fr,_⟩,k=>p.go slot H Fz s ⟨rd,wr,fr,true⟩ k
def toP:Option Prog→Prog
 |some p=>p
 |none=> .fail
def optP{β:Type}(o:Option β)(k:β→Prog):Prog:=match o with|some v=>k v|none=> .fail
def needP(b:Bool)(k:Prog):Prog:=match b with|true=>k|false=> .fail
section ops
variable {α:Type} (ih:Ih) (T:Tab)
def xg(op:BinOp)(t:TypeId)(x y:V)(k:V→Option α):Option α:=
 match op,x,y with
 | .shl,.int kx a,.int _ b=>need (decide (0≤b)) (k (.int kx (kx.wrap (a*2^(min b.toNat kx.bits)))))
 | .shr,.int kx a,.int _ b=>need (decide (0≤b)) (k (.int kx (a.fdiv (2^(min b.toNat kx.bits)))))
 | .quo,.int kx a,.int ky b=>(match decide (kx=ky)with|true=>need (!(b==0)) (k (.int kx (kx.wrap (a.tdiv b))))|false=>none)
 | .rem,.int kx a,.int ky b=>(match decide (kx=ky)with|true=>need (!(b==0)) (k (.int kx (a.tmod b)))|false=>none)
 |op,.int kx a,.int ky b=>(match decide (kx=ky)with|true=>zn (arith kx op a b) k|false=>none)
 |op,.flt kx a,.flt ky b=>(match decide (kx=ky)with|true=>zn (znj kx op a b) k|false=>none)
 | .add,.str a,.str b=>need (decide (a.length+b.length<zhg)) (k (.str (a++b)))
 | .eql,.str a,.str b=>k (.bool (a==b))
 | .neq,.str a,.str b=>k (.bool (!(a==b)))
 | .lss,.str a,.str b=>k (.bool (Op.bytesLess a b))
 | .leq,.str a,.str b=>k (.bool (Op.bytesLess a b||a==b))
 | .gtr,.str a,.str b=>k (.bool (!(Op.bytesLess a b||a==b)))
 | .geq,.str a,.str b=>k (.bool (!(Op.bytesLess a b)))
 |_,.cpl _ _ _,_=>none
 | .eql,x,y=>zn (eqT T kp t x y) fun b=>k (.bool b)
 | .neq,x,y=>zn (eqT T kp t x y) fun b=>k (.bool (!b))
 |_,_,_=>none
def unK(op:UnOp)(x:V)(k:V→Option α):Option α:=
 match op,x with
 | .neg,.int kd n=>k (.int kd (kd.wrap (0- n)))
 | .not,.bool b=>k (.bool (!b))
 | .neg,.flt kd b=>(match kd.decode b with
  | .nan _ _=>k (.flt kd (qn kd))
  |_=>k (.flt kd (Op.negFloat kd b)))
 |_,_=>none
def zaz(src dst:TypeId)(x:V)(k:V→Option α):Option α:=
 match T.td src,T.td dst,x with
 |_,.int kd,.int _ n=>k (.int kd (kd.wrap n))
 |_,.float kd,.int _ n=>k (.flt kd (kd.nearest n))
 |_,.int kd,.flt s b=>zn ((s.decode b).toInt .zero) fun n=>need (decide (kd.min≤n∧n≤kd.max)) (k (.int kd n))
 |_,.float kd,.flt s b=>(match decide (s=kd)with
  |true=>k (.flt kd b)
  |false=>(match s.decode b with
   | .nan _ _=>k (.flt kd (qn kd))
   | .infinity g=>k (.flt kd (kd.encode (.infinity g)))
   | .number g m e=>need (!(kd.decode (kd.encode (.number g m e))).isInfinity) (k (.flt kd (kd.encode (.number g m e))))))
 |_,.string,.str s=>k (.str s)
 |_,_,_=>none
def jt(sz:Nat)(t:TypeId)(v:V)(j:Nat)(k:V→Option α):Option α:=
 match T.isAgg t with
 |true=>(match Nat.beq j 0&&Nat.beq (T.size t) sz with
  |true=>asAgg v fun cs=>k (.agg cs)
  |false=>need (Nat.ble (j+T.size t) sz) (k (.agg (((cellsOf v).drop j).take (T.size t)))))
 |false=>need (Nat.beq (T.size t) 1) (get (cellsOf v) j k)
def xl(cs:List V)(j:Nat)(new:List V):List V:=cs.take j++(new++cs.drop (j+new.length))
def vr(old v:V)(j:Nat):V:=
 match old with
 | .agg cs=> .agg (xl cs j (cellsOf v))
 |_=>v
def zha(i:Int)(k:Nat→Option α):Option α:=need (decide (0≤i)) (k i.toNat)
def zcb(t:TypeId)(x:V)(f:Nat)(k:V→Option α):Option α:=
 match T.td t with
 | .struct fs=>(match fs[f]? with
  |some (o,ft)=>need (!(Nat.beq (T.size ft) 0)) (match x with
   | .ptr id i j=>k (.ptr id i (j+o))
   | .pp sz l i j=>k (.pp sz l i (j+o))
   | .glob g j=>k (.glob g (j+o))
   |_=>none)
  |none=>none)
 |_=>none
def zaf(sizes:List (Nat×Nat)):List (Nat×V)→List V→Option (List V)
 | [],cs=>some cs
 |(i,v)::r,cs=>match sizes[i]? with
  |some (o,n)=>(match zg n v&&Nat.ble (o+n) cs.length with
   |true=>zaf sizes r (xl cs o (cellsOf v))
   |false=>none)
  |none=>none
def zd2(t:TypeId)(parts:List (Nat×V))(k:V→Option α):Option α:=
 match T.td t with
 | .struct fs=>zn (zaf (fs.map fun(o,ft)=>(o,T.size ft)) parts (cellsOf (T.zero t))) fun cs=>k (.agg cs)
 | .array n e=>zn (zaf ((List.range n).map fun i=>(i*T.size e,T.size e)) parts (cellsOf (T.zero t))) fun cs=>k (.agg cs)
 |_=>none
def jo(n:Nat):List (Nat×V)→List V→Option (List V)
 | [],l=>some l
 |(i,v)::r,l=>match zg n v&&Nat.blt i l.length with
  |true=>jo n r (l.set i v)
  |false=>none
def kf(ok:Bool)(v:V)(b:Bool):V:=match ok with|true=> .tup [v,.bool b]|false=>v
def mapGet(eq:V→V→Option Bool):List (V×V)→V→Option (Option V)
 | [],_=>some none
 |(a,b)::r,x=>match eq x a with|some true=>some (some b)|some false=>mapGet eq r x|none=>none
def zc4:V→V→Bool
 | .int k a,.int k' b=>decide (k=k')&&a==b
 | .str a,.str b=>a==b
 | .bool a,.bool b=>a==b
 |_,_=>false
def zc3:List V→List V→Bool
 | [],[]=>true
 |a::r,b::s=>zc4 a b&&zc3 r s
 |_,_=>false
def zc5:V→V→Bool
 | .agg cs,.agg ds=>zc3 cs ds
 |a,b=>zc4 a b
def zmz(T:Tab)(ok:TypeId→V→Bool):List (Nat×TypeId)→List V→Bool
 | [],_=>true
 |(o,t)::fs,cs=>
  (match (match T.isAgg t with|true=>some (.agg ((cs.drop o).take (T.size t)))|false=>cs[o]? :Option V)with|some a=>ok t a|none=>false)&&zmz T ok fs cs
def keyOk(T:Tab):Nat→TypeId→V→Bool
 |0=>fun _ _=>false
 |n+1=>fun t v=>match T.td t,v with
  | .int _,.int _ _=>true
  | .string,.str _=>true
  | .bool,.bool _=>true
  | .struct fs,.agg cs=>zmz T (keyOk T n) fs cs
  |_,_=>false
def mapSet(eq:V→V→Option Bool):List (V×V)→V→V→Option (List (V×V))
 | [],x,y=>some [(x,y)]
 |(a,b)::r,x,y=>match eq x a with
  |some true=>(match zc5 a x with|true=>some ((x,y)::r)|false=>none)
  |some false=>(match mapSet eq r x y with|some r'=>some ((a,b)::r')|none=>none)
  |none=>none
def mapDel(eq:V→V→Option Bool):List (V×V)→V→Option (List (V×V))
 | [],_=>some []
 |(a,b)::r,x=>match eq x a with
  |some true=>some r
  |some false=>(match mapDel eq r x with|some r'=>some ((a,b)::r')|none=>none)
  |none=>none
def zey:List V→V→(V→Option α)→Option α
 | [],x,k=>k x
 |y::r,x,k=>asInt x fun kx a=>asInt y fun _ b=>zey r (.int kx (if b>a then b else a)) k
def zeu:List V→V→(V→Option α)→Option α
 | [],x,k=>k x
 |y::r,x,k=>asInt x fun kx a=>asInt y fun _ b=>zeu r (.int kx (if b<a then b else a)) k
def frzLP(fr:V→(V→Prog)→Prog):List V→(List V→Prog)→Prog
 | [],k=>k []
 |v::r,k=>fr v fun v'=>frzLP fr r fun r'=>k (v'::r')
def wa(fr:V→(V→Prog)→Prog)(id:Nat)(k:Nat→List V→Prog):Prog:=
 .get id fun r=>match r with
  | .cells b fl ty l=>(match fl with
   |true=>optP (T.ti ty) fun i=> .frz id (k i.size l)
   |false=>frzLP fr l fun l'=>optP (T.ti ty) fun i=> .set id (.cells b true ty l') (.frz id (k i.size l')))
  |_=> .fail
def frzP:Nat→V→(V→Prog)→Prog
 |0=>fun _ _=> .fail
 |n+1=>fun v k=>match v with
  | .ref id=>wa T (frzP n) id fun z l=>k (.sl true z l)
  | .sub id a b=>wa T (frzP n) id fun z l=>k (.sl true z ((l.drop a).take b))
  | .ptr id i j=>wa T (frzP n) id fun z l=>k (.pp z l i j)
  | .map _| .it _=> .fail
  | .fn f c=>frzLP (frzP n) c fun c'=>k (.fn f c')
  | .iface t v=>frzP n v fun v'=>k (.iface t v')
  | .agg cs=>frzLP (frzP n) cs fun cs'=>k (.agg cs')
  | .tup cs=>frzLP (frzP n) cs fun cs'=>k (.tup cs')
  |v=>k v
def zb9:Nat:=8
def vd(v:V)(k:V→Prog):Prog:=match pureV v with|true=>k v|false=>frzP T zb9 v k
def stowLP(l:List V)(k:List V→Prog):Prog:=match pureL l with|true=>k l|false=>frzLP (frzP T zb9) l k
def jv(sz:Nat)(v:V)(k:List V→Prog):Prog:=
 match v with
 | .sl nn z l=>needP (Nat.beq z sz|| !nn) (k l)
 | .ref id=> .get id fun r=>(match r with| .cells _ _ ty l=>needP (Nat.beq (T.size ty) sz) (k l)|_=> .fail)
 | .sub id a b=> .get id fun r=>(match r with| .cells _ _ ty l=>needP (Nat.beq (T.size ty) sz) (k ((l.drop a).take b))|_=> .fail)
 | .str s=>needP (Nat.beq sz 1) (k (s.map fun c=> .int .u8 c.toNat))
 |_=> .fail
def wo(d:TD)(v:V)(k:Nat→Prog):Prog:=
 match d,v with
 | .array n _,_=>k n
 | .slice _,.sl _ _ l=>k l.length
 | .string,.str s=>k s.length
 | .slice _,.ref id=> .get id fun r=>(match r with| .cells _ _ _ l=>k l.length|_=> .fail)
 | .slice _,.sub _ _ b=>k b
 | .map _ _,.nilm=>k 0
 | .map _ _,.map id=> .get id fun r=>(match r with| .map es=>k es.length|_=> .fail)
 |_,_=> .fail
def newP(r:Row)(k:Nat→Prog):Prog:= .base fun id=> .new r (k id)
def j9(t:TypeId)(a:V)(k:V→Prog):Prog:=
 match a with
 | .ptr id i j=> .get id fun r=>(match r with
  | .cells true _ ety l=>toP (get l i fun v=>jt T (T.size ety) t v j fun w=>some (k w))
  | .cells false _ ety l=>toP (get l i fun v=>jt T (T.size ety) t v j fun w=>shape T shD t w fun w=>some (k w))
  |_=> .fail)
 | .pp sz l i j=>toP (get l i fun v=>jt T sz t v j fun w=>shape T shD t w fun w=>some (k w))
 | .glob g j=>optP (T.glob g) fun cs=>(match T.isAgg t with
  |true=>needP (Nat.ble (j+T.size t) cs.length) (k (.agg ((cs.drop j).take (T.size t))))
  |false=>needP (Nat.beq (T.size t) 1) (toP (get cs j fun v=>some (k v))))
 |_=> .fail
def storeAt(b:Bool)(id i j:Nat)(t:TypeId)(v:V)(k:Prog):Prog:=
 .get id fun r=>(match r with
  | .cells b' fl ety l=>needP (b==b') (toP (get l i fun old=>need (zg (T.size t) v&&(Nat.blt 0 (T.size t)&&Nat.ble (j+T.size t) (T.size ety))) (some (.set id (.cells b' (fl&&pureV v) ety (l.set i (vr old v j))) k))))
  |_=> .fail)
def zcy(raw:Bool)(t:TypeId)(a v:V)(k:Prog):Prog:=
 match a with
 | .ptr id i j=> .isFz id fun z=>(match z with
  |true=> .fail
  |false=> .get id fun r=>(match r with
   | .cells true _ _ _=>storeAt T true id i j t v k
   | .cells false _ _ _=>(match raw with
    |true=>storeAt T false id i j t v k
    |false=>vd T v fun v=> .isFz id fun z=>(match z with|true=> .fail|false=>storeAt T false id i j t v k))
   |_=> .fail))
 |_=> .fail
def zbk(t:TypeId)(x:V)(i:Int)(k:V→Prog):Prog:=
 match T.td t with
 | .slice e=>(match x with
  | .sl _ sz l=>needP (decide (0≤i∧i<l.length)&&Nat.beq sz (T.size e)) (k (.pp sz l i.toNat 0))
  | .ref id=> .get id fun r=>(match r with
   | .cells _ _ ety l=>needP (decide (0≤i∧i<l.length)&&Nat.beq (T.size ety) (T.size e)) (k (.ptr id i.toNat 0))
   |_=> .fail)
  | .sub id a b=> .get id fun r=>(match r with
   | .cells _ _ ety _=>needP (decide (0≤i∧i<b)&&Nat.beq (T.size ety) (T.size e)) (k (.ptr id (a+i.toNat) 0))
   |_=> .fail)
  |_=> .fail)
 | .array n e=>needP (decide (0≤i∧i<n)) (match x with
  | .ptr id a j=>k (.ptr id a (j+i.toNat*T.size e))
  | .pp sz l a j=>k (.pp sz l a (j+i.toNat*T.size e))
  | .glob g j=>k (.glob g (j+i.toNat*T.size e))
  |_=> .fail)
 |_=> .fail
def yd(o:Option V)(d:Nat)(k:Nat→Prog):Prog:=match o with
 |none=>k d
 |some v=>toP (ug .i64 v fun i=>zha i fun n=>some (k n))
def wy(agg:Bool)(z:Nat):Nat→List V→List V
 |0,_=> []
 |n+1,cs=>(match agg with|true=> .agg (cs.take z)|false=>(match cs with|c::_=>c| []=> .undef))::wy agg z n (cs.drop z)
def ze9(n:Nat)(e:TypeId)(g:Nat)(k:V→Prog):Prog:=
 optP (T.glob g) fun cs=>needP ((Nat.beq cs.length (n*T.size e)&&(T.isAgg e||(Nat.beq (T.size e) 1&&cs.all isCell)))&&(!(Nat.beq (T.size e) 0)&&((wy (T.isAgg e) (T.size e) n cs).all (zg (T.size e))&&pureL (wy (T.isAgg e) (T.size e) n cs)))) (k (.sl true (T.size e) (wy (T.isAgg e) (T.size e) n cs)))
def zba(t:TypeId)(x:V)(lo hi:Option V)(k:V→Prog):Prog:=
 match T.td t,x with
 | .string,.str s=>yd hi s.length fun h=>yd lo 0 fun l=>needP (decide (l≤h∧h≤s.length)) (k (.str ((s.take h).drop l)))
 | .slice e,.sl nn sz s=>yd hi s.length fun h=>yd lo 0 fun l=>needP (decide (l≤h∧h≤s.length)&&(Nat.beq sz (T.size e)|| !nn)) (k (.sl nn sz ((s.take h).drop l)))
 | .slice e,.ref id=> .get id fun r=>(match r with
  | .cells _ _ ety s=>yd hi s.length fun h=>yd lo 0 fun l=>needP (decide (l≤h∧h≤s.length)&&Nat.beq (T.size ety) (T.size e)) (k (.sub id l (h- l)))
  |_=> .fail)
 | .slice e,.sub id a b=> .get id fun r=>(match r with
  | .cells _ _ ety s=>yd hi b fun h=>yd lo 0 fun l=>needP ((decide (l≤h∧h≤b)||decide (l≤h∧a+h≤s.length))&&Nat.beq (T.size ety) (T.size e)) (k (.sub id (a+l) (h- l)))
  |_=> .fail)
 | .array n e,.glob g 0=>(match lo,hi with
  |none,none=>ze9 T n e g k
  |_,_=> .fail)
 |_,_=> .fail
def zef(t:TypeId)(x:V)(lo:Option V)(hi mx:V)(k:V→Prog):Prog:=
 match T.td t,x with
 | .slice e,.ref id=> .get id fun r=>(match r with
  | .cells _ _ ety s=>yd (some mx) 0 fun m=>yd (some hi) 0 fun h=>yd lo 0 fun l=>needP (decide (l≤h∧h≤m∧m≤s.length)&&Nat.beq (T.size ety) (T.size e)) (k .undef)
  |_=> .fail)
 |_,_=> .fail
def maxRow:Nat:=16777216
def wh(e:TypeId)(base src:V)(k:V→Prog):Prog:=
 jv T (T.size e) src fun xs=>
 needP (decide (T.bytes e≤4096∧T.size e≠0)&&zg (T.size e) (T.zero e))<|
 match base with
 | .sl false sz []=>(match xs with
  | []=>k (.sl false sz [])
  |x::r=>needP (decide ((x::r).length<maxRow)) (newP (.cells false (pureL (x::r)) e (x::r)) fun id=>k (.ref id)))
 | .ref id=> .isFz id fun z=>(match z with
  |true=> .fail
  |false=> .get id fun row=>(match row with
   | .cells false fl ety l=>needP (Nat.beq (T.size ety) (T.size e)) (match xs with
    | []=>k (.ref id)
    |x::r=>needP (decide ((l++x::r).length<maxRow)) (.set id .dead (newP (.cells false (fl&&pureL (x::r)) ety (l++x::r)) fun id'=>k (.ref id'))))
   |_=> .fail))
 | .sub id o a=> .isFz id fun z=>(match z with
  |true=> .fail
  |false=> .get id fun row=>(match row with
   | .cells false fl ety l=>needP (Nat.beq (T.size ety) (T.size e)&&Nat.ble (o+a+xs.length) l.length)
     (.set id (.cells false (fl&&pureL xs) ety (l.take (o+a)++(xs++l.drop (o+a+xs.length)))) (k (.sub id o (a+xs.length))))
   |_=> .fail))
 |_=> .fail
def zay(T:Tab)(id a n:Nat)(e:TypeId)(ys:List V)(k:Prog):Prog:=
 .isFz id fun z=>(match z with
  |true=> .fail
  |false=> .get id fun row=>(match row with
   | .cells false fl ety l=>needP (Nat.beq (T.size ety) (T.size e))
     (.set id (.cells false (fl&&pureL ys) ety (l.take a++(ys.take n++l.drop (a+min ys.length n)))) k)
   |_=> .fail))
def jy(b:Builtin)(tys:List TypeId)(args:List V)(k:V→Prog):Prog:=
 match b,args,tys with
 | .len,[x],t::_=>wo (T.td t) x fun n=>k (.int .i64 n)
 | .append,[x,y],[t,t']=>(match T.td t,T.td t' with
  | .slice e,.slice _=>wh T e x y k
  | .slice e,.string=>wh T e x y k
  |_,_=> .fail)
 | .copy,[x,y],t::_=>(match T.td t,x with
  | .slice e,.ref id=>jv T (T.size e) y fun ys=> .get id fun row=>(match row with
   | .cells _ _ _ l=>zay T id 0 l.length e ys (k (.int .i64 (min ys.length l.length:Nat)))
   |_=> .fail)
  | .slice e,.sub id a n=>jv T (T.size e) y fun ys=>zay T id a n e ys (k (.int .i64 (min ys.length n:Nat)))
  | .slice e,.sl false _ []=>jv T (T.size e) y fun _=>k (.int .i64 0)
  |_,_=> .fail)
 | .max,x::xs,_=>toP (zey xs x fun v=>some (k v))
 | .min,x::xs,_=>toP (zeu xs x fun v=>some (k v))
 | .delete,[.map id,x],t::_=>(match T.td t with
  | .map kt _=>needP (keyOk T 3 kt x)<| .get id fun row=>(match row with
   | .map es=>optP (mapDel (eqT T kp kt) es x) fun es'=> .set id (.map es') (k (.tup []))
   |_=> .fail)
  |_=> .fail)
 | .clear,[.sub id a n],t::_=>(match T.td t with
  | .slice e=> .isFz id fun z=>(match z with
   |true=> .fail
   |false=> .get id fun row=>(match row with
    | .cells false fl ety l=>needP (Nat.beq (T.size ety) (T.size e)&&zg (T.size e) (T.zero e)) (.set id (.cells false (fl&&pureV (T.zero e)) ety (l.take a++(List.replicate n (T.zero e)++l.drop (a+n)))) (k (.tup [])))
    |_=> .fail))
  |_=> .fail)
 | .clear,[.sl _ _ []],t::_=>(match T.td t with| .slice _=>k (.tup [])|_=> .fail)
 |_,_,_=> .fail
end ops
section run
variable {α:Type} (ih:Ih) (T:Tab)
def qu(f:FuncId)(v:V)(k:V→Option α):Option α:=
 match T.fn f with
 |some fn=>(match fn.resultTypes.toList with
  | []=>k v
  | [t]=>shape T shD t v k
  |ts=>zaj v fun vs=>need (Nat.beq vs.length ts.length) (shParts (shape T shD) ts vs [] fun r=>k (.tup r)))
 |none=>none
def z6(ids new:List Nat)(at_:Nat)(x:Nat):Nat:=
 match Nat.blt x ids.length with
 |true=>(match ids[x]? with|some id=>id|none=>0)
 |false=>at_+idx new x
def xy(n:Nat):List Nat→List Nat
 | []=> []
 |x::r=>match Nat.blt x n with|true=>xy n r|false=>x::xy n r
def reachP:Nat→List Nat→List Nat→(List Nat→Prog)→Prog
 |0,_,_,_=> .fail
 |n+1,work,seen,k=>match work with
  | []=>k seen.reverse
  |id::w=>match seen.any (Nat.beq id)with
   |true=>reachP n w seen k
   |false=> .get id fun r=>(match r with
    | .cells _ false _ l=>reachP n (zi l++w) (id::seen) k
    |_=>reachP n w (id::seen) k)
def maskP:List Nat→Nat→Nat→(Nat→Prog)→Prog
 | [],_,m,k=>k m
 |id::r,n,m,k=> .isFz id fun z=>maskP r (n+1) (match z with|true=>m|||bit n|false=>m) k
def qb(back:Nat→Nat)(Fz:Nat):List Nat→Prog→Prog
 | [],k=>k
 |x::r,k=>match Fz.testBit x with|true=> .frz (back x) (qb back Fz r k)|false=>qb back Fz r k
def rowsP:List Nat→zj→(zj→Prog)→Prog
 | [],acc,k=>k acc.reverse
 |id::r,acc,k=> .get id fun row=>rowsP r (row::acc) k
def vc:List Nat→zj→Prog→Prog
 |id::ids,row::rows,k=> .set id row (vc ids rows k)
 | [],[],k=>k
 |_,_,_=> .fail
def ql:zj→Prog→Prog
 | [],k=>k
 |row::rows,k=>match row with| .free=> .fail|row=> .new row (ql rows k)
def withStk(y:Bool)(p:xb→(xb→Prog→Prog)→Prog):Prog:=
 match y with
 |true=> .stk fun S=>p S fun S' k=> .setStk S' k
 |false=>p [] fun S' k=>(match S' with| []=>k|_=> .fail)
def callP(f:FuncId)(args:List V)(k:V→Prog):Prog:=
 match T.byref f with
 |true=>
  reachP 10000 (zi args) [] fun ids=>maskP ids 0 0 fun Fz=>rowsP ids [] fun rows=>
  withStk (z9 args) fun S back'=>
  optP (ih.call f (x9 (idx ids) args) (xh (idx ids) rows) Fz S) fun(v,H',Fz',S')=>
  optP (reach 10000 (List.range ids.length++idsV v) [] H') fun rs=>
   let new:=xy ids.length rs
   .base fun b=>let back:=z6 ids new b
    vc ids (xh back (H'.take ids.length))<|ql (xh back (pick H' new))<|qb back Fz' rs<|
    back' S'<|toP (qu T f (xz back v) fun v=>some (k v))
 |false=>stowLP T args fun args=>
  match T.prim f with
  |some p=>needP (!z9 args)<|optP (p args) fun v=>toP (qu T f v fun v=>some (k v))
  |none=>withStk (z9 args) fun S back'=>optP (ih.call f args [] 0 S) fun(v,_,_,S')=>
   back' S'<|toP (qu T f v fun v=>some (k v))
def zd0(args:List V):List V→List V
 | .yld _::first=>first++args
 |cap=>args++cap
def zau:V→Bool
 | .fn _ (.yld _::_)=>true
 |_=>false
def callV(fv:V)(args:List V)(k:V→Prog):Prog:=
 match fv with
 | .fn f cap=>callP ih T f (zd0 args cap) k
 | .yld n=>stowLP T args fun args=>needP (!z9 args)<| .stk fun S=>optP (ih.yld n args S) fun(b,S')=> .setStk S' (k (.bool b))
 |_=> .fail
def bytesOf:List V→Option (List UInt8)
 | []=>some []
 | .int .u8 n::r=>(match bytesOf r with|some s=>some (UInt8.ofNat n.toNat::s)|none=>none)
 |_::_=>none
def zg7:V→Bool
 | .sl _ _ _=>true
 | .ref _=>true
 | .sub _ _ _=>true
 |_=>false
def yne(s d:TypeId)(x:V):Prog:=match T.td s,T.td d with
 | .slice e,.string=>(match T.td e with
  | .int .u8=>needP (zg7 x) (jv T 1 x fun l=>optP (bytesOf l) fun b=> .ret (.str b))
  |_=> .fail)
 |_,_=>toP (zaz T s d x fun v=>some (.ret v))
def zf4:List (V×V)→Option V
 | []=>some (.int .i64 0)
 |(_,.int k n)::r=>(match r.all fun p=>(match p.2 with| .int k' n'=>k==k'&&n==n'|_=>false)with
  |true=>some (.int k n)
  |false=>none)
 |_=>none
def opP(raw:Bool)(ev:Operand→V)(o:Oper):Prog:=
 match o.op with
 | .move x| .assign x=> .ret (ev x)
 | .pick c a b=>toP (asBool (ev c) fun b'=>some (br b' (.ret (ev a)) (.ret (ev b))))
 | .alloc t=>needP (zg (T.size t) (T.zero t)) (newP (.cells true (pureV (T.zero t)) t [T.zero t]) fun id=> .ret (.ptr id 0 0))
 | .box t x=>needP (zg (T.size t) (ev x)) (newP (.cells true (pureV (ev x)) t [ev x]) fun id=> .ret (.ptr id 0 0))
 | .build t ps=>toP (zd2 T t (ps.toList.map fun(i,x)=>(i,ev x)) fun v=>some (.ret v))
 | .buildSlice t n ps=>(match T.td t with
  | .slice e=>
   let p (vs:List V):Prog:=needP (decide (T.size e≠0∧n*T.size e≤65536)&&zg (T.size e) (T.zero e))<|
    optP (jo (T.size e) ((ps.toList.map (·.1)).zip vs) (List.replicate n (T.zero e))) fun l=>newP (.cells false (pureL l) e l) fun id=> .ret (.ref id)
   (match raw with
   |true=>p (ps.toList.map fun(_,x)=>ev x)
   |false=>stowLP T (ps.toList.map fun(_,x)=>ev x) p)
  |_=> .fail)
 | .load t a=>j9 T t (ev a) .ret
 | .store t a v=>zcy T raw t (ev a) (ev v) (.ret .undef)
 | .nilCheck x=>(match ev x with
  | .ptr a b c=> .ret (.ptr a b c)
  | .pp a b c d=> .ret (.pp a b c d)
  | .fn a c=> .ret (.fn a c)
  | .yld n=> .ret (.yld n)
  | .glob a b=> .ret (.glob a b)
  |_=> .fail)
 | .binOp op t x y _=>toP (xg T op t (ev x) (ev y) fun v=>some (.ret v))
 | .unOp op _ x=>toP (unK op (ev x) fun v=>some (.ret v))
 | .convert s d x=>optP (T.ti s) fun _=>yne T s d (ev x)
 | .makeFunc (.func f) ⟨[]⟩ cap=>needP (!z9 (cap.toList.map ev)) (.ret (.fn f (cap.toList.map ev)))
 | .makeFunc (.func f) ⟨x::xs⟩ ⟨[]⟩=>needP (!z9 ((x::xs).map ev)) (.ret (.fn f (.yld 0::(x::xs).map ev)))
 | .makeMap _ none=>newP (.map []) fun id=> .ret (.map id)
 | .makeSlice t l c=>(match T.td t with
  | .slice e=>toP (ug .i64 (ev l) fun n=>ug .i64 (ev c) fun m=>
   some (needP (decide (0≤n∧n≤m∧m<maxRow∧T.bytes e≤4096∧T.size e≠0)&&zg (T.size e) (T.zero e))
    (newP (.cells false (pureV (T.zero e)) e (List.replicate n.toNat (T.zero e))) fun id=> .ret (.ref id))))
  |_=> .fail)
 | .slice t x lo hi none=>zba T t (ev x) (lo.map ev) (hi.map ev) .ret
 | .slice t x lo (some hi) (some mx)=>zef T t (ev x) (lo.map ev) (ev hi) (ev mx) .ret
 | .fieldAddr s x f=>toP (zcb T s (ev x) f fun v=>some (.ret v))
 | .indexAddr t x i=>toP (asInt (ev i) fun _ n=>some (zbk T t (ev x) n .ret))
 | .index t x i=>toP (asInt (ev i) fun _ n=>(match ev x,T.td t with
  | .agg cs,.array len e=>need (decide (0≤n∧n<len)) (match T.isAgg e with
   |true=>need (Nat.ble (n.toNat*T.size e+T.size e) cs.length) (some (.ret (.agg ((cs.drop (n.toNat*T.size e)).take (T.size e)))))
   |false=>need (Nat.beq (T.size e) 1) (get cs n.toNat fun v=>some (.ret v)))
  | .str s,.string=>need (decide (0≤n)) (match s[n.toNat]? with|some c=>some (.ret (.int .u8 c.toNat))|none=>none)
  |_,_=>none))
 | .lookup t m x ok=>(match T.td t with
  | .map kt e=>needP (keyOk T 3 kt (ev x))<|(match ev m with
   | .nilm=> .ret (kf ok (T.zero e) false)
   | .map id=> .get id fun row=>(match row with
    | .map es=>optP (mapGet (eqT T kp kt) es (ev x)) fun o=>(match o with
     |some v=>toP (shape T shD e v fun v=>some (.ret (kf ok v true)))
     |none=> .ret (kf ok (T.zero e) false))
    |_=> .fail)
   |_=> .fail)
  |_=> .fail)
 | .mapUpdate t m x y=>(match ev m,T.td t with
  | .map id,.map kt _=>vd T (ev y) fun y=>needP (!zm y&&(pureV (ev x)&&keyOk T 3 kt (ev x))) (.get id fun row=>(match row with
   | .map es=>optP (mapSet (eqT T kp kt) es (ev x) y) fun es'=> .set id (.map es') (.ret .undef)
   |_=> .fail))
  |_,_=> .fail)
 | .range t x=>(match T.td t,ev x with
  | .string,.str s=>newP (.siter s 0) fun id=> .ret (.it id)
  | .map _ _,.map id=> .get id fun row=>(match row with
   | .map es=>optP (zf4 es) fun x=> .set id .dead (newP (.miter x es.length false) fun id'=> .ret (.it id'))
   |_=> .fail)
  |_,_=> .fail)
 | .next x true=>(match ev x with
  | .it id=> .get id fun row=>(match row with
   | .siter s p=>br (decide (p<s.length))
     (.set id (.siter s (p+(Utf8.decode ⟨s.toArray⟩ p).2)) (.ret (.tup [.bool true,.int .i64 p,.int .i32 (Utf8.decode ⟨s.toArray⟩ p).1])))
     (.ret (.tup [.bool false]))
   |_=> .fail)
  |_=> .fail)
 | .next x false=>(match ev x with
  | .it id=> .get id fun row=>(match row with
   | .miter v n _=>(match n with
    |0=> .ret (.tup [.bool false])
    |n+1=> .set id (.miter v n true) (.ret (.tup [.bool true,.undef,v])))
   |_=> .fail)
  |_=> .fail)
 | .entry x=>(match ev x with
  | .it id=> .get id fun row=>(match row with
   | .miter v _ true=> .ret (.tup [.undef,v])
   |_=> .fail)
  |_=> .fail)
 | .extract t i=>toP (zaj (ev t) fun vs=>get vs i fun v=>some (.ret v))
 | .call c=>(match c.callee with
  | .value (.func f)=>callP ih T f (c.args.toList.map ev) .ret
  | .value x=>callV ih T (ev x) (c.args.toList.map ev) .ret
  | .builtin b=>jy T b c.argTypes.toList (c.args.toList.map ev) .ret
  |_=> .fail)
 |_=> .fail
def opK(slot:Option Nat)(st:St)(o:Oper)(k:V→St→FP→Option α):Option α:=
 (opP ih T (T.raw st.fn) st.eval o).go slot st.H st.Fz st.S .none fun v H Fz S fp=>k v ⟨st.fn,st.nt,st.fp,st.env,H,Fz,S⟩ fp
def j7(ops:Array Oper)(ev:Operand→V)(j:Nat):V:=
 match ops[j]? with|some o=>(match o.dst with|some t=>ev (.tmp t)|none=> .undef)|none=> .undef
def ve(st:St)(d:Option Nat):Bool:=match d with|some t=>Nat.blt t st.nt|none=>true
def opsK(ops:Array Oper)(slot:Nat→Option Nat):Nat→List Oper→St→List FP→(St→List FP→Option α)→Option α
 |_,[],st,fps,k=>k st fps
 |j,o::rest,st,fps,k=>
  match ve st o.dst with
  |false=>none
  |true=>
  match o.guard with
  |none=>opK ih T (slot j) st o fun v st fp=>opsK ops slot (j+1) rest (st.put o.dst v) (fp::fps) k
  |some (g,want)=>
   match j7 ops st.eval g with
   | .bool b=>
    let d:=match ops[g]? with|some o=>o.dst|none=>none
    match want with
    |true=>br b (opK ih T (slot j) (st.put d (.bool true)) o fun v st fp=>opsK ops slot (j+1) rest (st.put o.dst v) (fp::fps) k)
            (opsK ops slot (j+1) rest ((st.put d (.bool false)).put o.dst (.tup [])) (.none::fps) k)
    |false=>br b (opsK ops slot (j+1) rest ((st.put d (.bool true)).put o.dst (.tup [])) (.none::fps) k)
            (opK ih T (slot j) (st.put d (.bool false)) o fun v st fp=>opsK ops slot (j+1) rest (st.put o.dst v) (fp::fps) k)
   | .tup _=>opsK ops slot (j+1) rest (st.put o.dst (.tup [])) (.none::fps) k
   |_=>none
def FP.apart(a b:FP):Bool:=
 Nat.beq (a.wr&&&(b.rd|||b.wr|||b.fr)) 0&&Nat.beq (b.wr&&&(a.rd|||a.fr)) 0&& !(a.sk&&b.sk)
def zb1(fps:List FP):List (Nat×Nat)→Bool
 | []=>true
 |(j,i)::r=>(match fps[j]?,fps[i]? with|some f,some g=>f.apart g|_,_=>false)&&zb1 fps r
def regionK(ops:Array Oper)(ps:Option (List (Nat×Nat)))(st:St)(k:St→Option α):Option α:=
 match ps with
 |none=>opsK ih T ops (fun _=>none) 0 ops.toList st [] fun st _=>k st
 |some ps=>opsK ih T ops (fun j=>some (st.H.length+j)) 0 ops.toList (st.withH (st.H++List.replicate ops.size .free)) [] fun st fps=>
   need (zb1 fps.reverse ps) (k st)
def keyOf:Code→Nat
 | .seq a _=>keyOf a
 | .region id _ _=>id
 |_=>0
def jn(st:St)(body:Code):Option St:=
 match T.keep st.fn (keyOf body)with
 |some ks=>gc ks st
 |none=>some st
def resultsK(st:St):List ResultVar→List V→(List V→Option Out)→Option Out
 | [],acc,k=>k acc
 | .tmp t::rs,acc,k=>resultsK st rs (acc++ [xx st.env t]) k
 | .cell a t::rs,acc,k=>(j9 T t (xx st.env a) .ret).go none st.H st.Fz st.S .none fun v _ _ _ _=>resultsK st rs (acc++ [v]) k
def wv(vs:List V):V:=match vs with| [v]=>v|vs=> .tup vs
def zdg(rnd:Bool)(st:St)(jump:Option Code):Option Out:=
 match rnd with
 |true=>some (.round jump,st.H,st.Fz,st.S)
 |false=>
  match jump with
  |none|some .ret=>(match T.fn st.fn with
   |some fn=>resultsK T st fn.results.toList [] fun vs=>need (!z9 vs)<|
    (match T.byref st.fn with
    |true=>some (.ret (wv vs),st.H,st.Fz,st.S)
    |false=>(frzP T zb9 (wv vs) .ret).go none st.H st.Fz st.S .none fun v' _ _ _ _=>some (.ret v',[],0,st.S))
   |none=>none)
  |_=>none
def je(rnd:Bool)(st:St)(jump:Option Code):Option Out:=zdg T rnd st jump
def onlyRows(ids:List Nat):Nat→zj→zj
 |_,[]=> []
 |n,r::h=>(match ids.any (Nat.beq n)with|true=>r|false=> .dead)::onlyRows ids (n+1) h
def butRows(ids:List Nat):Nat→zj→zj
 |_,[]=> []
 |n,r::h=>(match ids.any (Nat.beq n)with|true=> .dead|false=>r)::butRows ids (n+1) h
def yle:V→Bool
 | .fn f _=>T.byref f
 |_=>false
def zac(nt:Nat):List Nat→Bool
 | []=>true
 | [t]=>Nat.blt t nt
 | [t,u]=>Nat.blt t nt&&(Nat.blt u nt&& !(Nat.beq t u))
 |_=>false
def runK(rnd:Bool):Nat→List Item→St→Option Out
 |0,_,_=>none
 |n+1,items,st=>match items with
  | []=>je T rnd st none
  | .code c::k=>(match c with
   | .skip=>runK rnd n k st
   | .label _=>runK rnd n k st
   | .ret=>je T rnd st (some .ret)
   | .seq a b=>runK rnd n (.code a:: .code b::k) st
   | .cond c a b=>asBool (st.eval c) fun v=>br v (runK rnd n (.code a::k) st) (runK rnd n (.code b::k) st)
   | .block id b=>runK rnd n (.code b:: .inBlock id::k) st
   | .loop b=>(jn T st b).bind fun st=>ih.loop rnd (.code (.loop b)::k) st
   | .scope b=>runK rnd n (.code b:: .inScope b::k) st
   | .exit id=>(match exitTo id k with|some k'=>runK rnd n k' st|none=>je T rnd st (some (.exit id)))
   | .region id ops draw=>regionK ih T ops (match draw with|true=>some (T.pairs st.fn id)|false=>none) st fun st=>runK rnd n k st
   | .rangeFunc f ps as body=>need (zac st.nt ps.toList)<|(match yle T (st.eval f)with
    |true=>need (!zau (st.eval f))<|
     (callV ih T (st.eval f) [.yld st.S.length] .ret).go none (onlyRows (idsV (st.eval f)) 0 st.H) st.Fz (st.S++ [{fn:=st.fn,nt:=st.nt,env:=st.env,H:=butRows (idsV (st.eval f)) 0 st.H,Fz:=st.Fz,ps:=ps.toList,assign:=as,body:=body,done:=false,pending:=none,fp:=st.fp}]) .none fun _ _ _ S' _=>
     (match S'.getLast? with
     |some own=>runK rnd n (match own.pending with|some c=> .code c::k|none=>k) ⟨own.fn,own.nt,st.fp,own.env,own.H,own.Fz,S'.dropLast⟩
     |none=>none)
    |false=>(vd T (st.eval f) .ret).go none st.H st.Fz st.S .none fun fv H Fz S _=>need (!zau fv)<|
    let own:Own:={fn:=st.fn,nt:=st.nt,env:=st.env,H:=H,Fz:=Fz,ps:=ps.toList,assign:=as,body:=body,done:=false,pending:=none,fp:=st.fp}
    (callV ih T fv [.yld S.length] .ret).go none [] 0 (S++ [own]) .none fun _ _ _ S' _=>
     (match S'.getLast? with
     |some own=>runK rnd n (match own.pending with|some c=> .code c::k|none=>k) ⟨own.fn,own.nt,st.fp,own.env,own.H,own.Fz,S'.dropLast⟩
     |none=>none))
   |_=>none)
  | .inBlock _::k=>runK rnd n k st
  | .inScope _::k=>runK rnd n k st
  | .beginRound::k=>runK rnd n k st
  | .inLoop b::k=>(jn T st b).bind fun st=>ih.loop rnd (.code (.loop b)::k) st
  |_=>none
end run
def zaq(T:Tab)(own:Own)(H:zj)(Fz:Nat)(jump:Option Code):Option Own:=
 match T.keep own.fn 1000000 with
 |some ks=>(gc ks ⟨own.fn,own.nt,own.fp,own.env,H,Fz,[]⟩).bind fun st=>some {own with env:=st.env,H:=st.H,Fz:=st.Fz,done:=jump.isSome,pending:=jump}
 |none=>some {own with H:=H,Fz:=Fz,done:=jump.isSome,pending:=jump}
def qk:Nat:=100000
def params:Nat→List V→Env
 |_,[]=> []
 |i,v::r=>(i,v)::params (i+1) r
def ev(T:Tab):Nat→Ih
 |0=>{loop:=fun _ _ _=>none,call:=fun _ _ _ _ _=>none,yld:=fun _ _ _=>none}
 |n+1=>
  {loop:=fun rnd items st=>match items with
    | .code (.loop b)::k=>runK (ev T n) T rnd qk (.code b:: .inLoop b::k) st
    |_=>none
   call:=fun f args H Fz S=>match T.fn f with
    |some fn=>(match fn.body with
     |some body=>need (Nat.ble args.length fn.ntmps)<|(match runK (ev T n) T false qk [.code body] ⟨f,fn.ntmps,H.length,params 0 args,H,Fz,S⟩with
      |some (.ret v,H',Fz',S')=>some (v,H',Fz',S')
      |_=>none)
     |none=>none)
    |none=>none
   yld:=fun d args S=>match S[d]? with
    |some own=>(match own.done with
     |true=>none
     |false=>
      need (Nat.beq own.ps.length args.length)<|match runK (ev T n) T true qk [.code own.assign,.beginRound,.code own.body] ⟨own.fn,own.nt,own.H.length,own.ps.zip args++own.env,own.H,own.Fz,S.take d⟩with
      |some (.round jump,H',Fz',S')=>(zaq T own H' Fz' jump).bind fun own'=>some (jump.isNone,S'++(own'::S.drop (d+1)))
      |_=>none)
    |none=>none}
def xp(T:Tab)(ih:Ih):Ih:=
 {loop:=fun rnd items st=>match items with
   | .code (.loop b)::k=>runK ih T rnd qk (.code b:: .inLoop b::k) st
   |_=>none
  call:=fun f args H Fz S=>match T.fn f with
   |some fn=>(match fn.body with
    |some body=>need (Nat.ble args.length fn.ntmps)<|(match runK ih T false qk [.code body] ⟨f,fn.ntmps,H.length,params 0 args,H,Fz,S⟩with
     |some (.ret v,H',Fz',S')=>some (v,H',Fz',S')
     |_=>none)
    |none=>none)
   |none=>none
  yld:=fun d args S=>match S[d]? with
   |some own=>(match own.done with
    |true=>none
    |false=>
     need (Nat.beq own.ps.length args.length)<|match runK ih T true qk [.code own.assign,.beginRound,.code own.body] ⟨own.fn,own.nt,own.H.length,own.ps.zip args++own.env,own.H,own.Fz,S.take d⟩with
     |some (.round jump,H',Fz',S')=>(zaq T own H' Fz' jump).bind fun own'=>some (jump.isNone,S'++(own'::S.drop (d+1)))
     |_=>none)
   |none=>none}
theorem yms(T:Tab)(n:Nat):ev T (n+1)=xp T (ev T n):=rfl
end Go.Den
