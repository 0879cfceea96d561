import Derived.Test.YteeikdgoeehhkaaGreatDoorFaM0
import Derived.Test.YteeikdgoeehhkaaGreatDoorFaX2
import Derived.Test.YteeikdgoeehhkaaGreatDoorFaX1
import Derived.Test.YteeikdgoeehhkaaGreatDoorFaS0
import Derived.Test.YteeikdgoeehhkaaGreatDoorZR
set_option linter.all false
set_option maxHeartbeats 8000000
set_option maxRecDepth 100000
noncomputable section
namespace Go.Den.FaT
open Go Go.Proofs Go.Den
theorem yx:(zu T).call 8 [.int .i64 0] [] 0 []=some (.str [48],[],0,[]):=q6 fj 100000 (by kernel_rfl)
theorem jo:(zu T).call 8 [.int .i64 1] [] 0 []=some (.str [49],[],0,[]):=q6 fj 100000 (by kernel_rfl)
theorem je:(zu T).call 8 [.int .i64 2] [] 0 []=some (.str [50],[],0,[]):=q6 fj 100000 (by kernel_rfl)
theorem zki:(zu T).call 8 [.int .i64 3] [] 0 []=some (.str [51],[],0,[]):=q6 fj 100000 (by kernel_rfl)
theorem zkh:(zu T).call 8 [.int .i64 4] [] 0 []=some (.str [52],[],0,[]):=q6 fj 100000 (by kernel_rfl)
theorem zkg:(zu T).call 8 [.int .i64 5] [] 0 []=some (.str [53],[],0,[]):=q6 fj 100000 (by kernel_rfl)
theorem zkf:(zu T).call 8 [.int .i64 6] [] 0 []=some (.str [54],[],0,[]):=q6 fj 100000 (by kernel_rfl)
theorem zgn:(zu T).call 23 [.sl true 3 [.agg [.str [102,117,115,101],.int .i64 3,.int .i64 0]],.sl true 2 [.agg [.str [102,117,115,101],.int .i64 1]]] [] 0 []=some (.tup [.sl true 3 [.agg [.str [102,117,115,101],.int .i64 2,.int .i64 0]],.int .i64 0],[],0,[]):=q6 fj 100000 (by kernel_rfl)
theorem zgm:(zu T).call 23 [.sl true 3 [.agg [.str [102,117,115,101],.int .i64 3,.int .i64 0]],.sl true 2 [.agg [.str [102,117,115,101],.int .i64 2]]] [] 0 []=some (.tup [.sl true 3 [.agg [.str [102,117,115,101],.int .i64 1,.int .i64 0]],.int .i64 0],[],0,[]):=q6 fj 100000 (by kernel_rfl)
theorem zgl:(zu T).call 23 [.sl true 3 [.agg [.str [102,117,115,101],.int .i64 3,.int .i64 0]],.sl true 2 [.agg [.str [102,117,115,101],.int .i64 3]]] [] 0 []=some (.tup [.sl true 3 [.agg [.str [102,117,115,101],.int .i64 0,.int .i64 0]],.int .i64 0],[],0,[]):=q6 fj 100000 (by kernel_rfl)
variable (be:Bool) (es:List Int) (Y:Cx) (rz:Nat) (rb:Bool) (rp:List Int)
abbrev jy:V:= .agg [.sl false 0 [],.int .i64 0,.sl false 0 []]
def zcc:Option Out:=
 (zu T).loop false [.code (.loop zcs),.inBlock 0,.code (r14_29.seq .ret)]
  ⟨14,119,0,[(1,.sl rb rz (rp.map zx)),(2,.ptr 0 0 0),(4,.ptr 1 0 0),(6,.ptr 2 0 0),(7,.sl false 0 []),(20,.int .i64 0)],
   [bx be es Y,.cells true true 76 [jy],pr0 Y],0,[]⟩
def xz(k:Int)(V7:V)(vs:List (Bool×List Int))(cs:List Cz)(R:zw):Option Out:=
 (zu T).loop false [.code (.loop zcs),.inBlock 0,.code (r14_29.seq .ret)]
  ⟨14,119,0,[(1,.sl rb rz (rp.map zx)),(2,.ptr 0 0 0),(4,.ptr 1 0 0),(6,.ptr 2 0 0),(7,V7),(20,.int .i64 k)],
   bx be es Y:: .cells true true 76 [jy]:: .cells true false 76 [.agg [.ref 3,.int .i64 Y.n,.ref 4]]:: .cells false true 39 (vs.map rwV):: .cells false true 103 (cs.map czV)::R,0,[]⟩
theorem st(hn:0≤Y.n∧Y.n≤255)(r:V)(h:zcc be es Y rz rb rp=some (.ret r,[],0,[])):(zu T).call 14 [zy be es Y,.sl rb rz (rp.map zx)] [] 0 []=some (r,[],0,[]):=by
 have w1:=zd (a:=Y.n) (by omega);unfold zcc at h;simp only[bx,pr0,jy,zy,xx,w8,i8]at h;rw[xax];simp -implicitDefEqProofs only[go_sem,simprocAttr,zy,xx,w8,i8,w1,h]
theorem so0:zcc be es Y rz rb rp=hd0 be es Y jy rz rb rp 0 0 false (.sl false 0 []) (.sl false 0 []) (.sl false 0 []) []:=by
 unfold zcc hd0;rw[zq];simp -implicitDefEqProofs only[go_sem,simprocAttr,zy,xx,w8,i8]
 try rfl
theorem zap(k:Int)(hk:k<7)(vs:List (Bool×List Int))(cs:List Cz)(N:List Int):xz be es Y rz rb rp k (.sl false 0 []) vs cs []=hd1 be es Y jy vs cs rz rb rp k 0 false (.sl false 0 []) (.sl false 0 []) (.sl false 0 []) []:=by
 unfold xz hd1;have h1:decide (k<7)=true:=decide_eq_true hk;rw[zq];simp -implicitDefEqProofs only[go_sem,simprocAttr,zy,xx,w8,i8,h1]
 try rfl
theorem yyc(vs:List (Bool×List Int))(cs:List Cz)(N:List Int):xz be es Y rz rb rp 7 (.sl false 0 []) vs cs []=some (.ret (.tup [.agg [.sl true 1 (vs.map rwV),.int .i64 Y.n,.sl true 3 (cs.map czV)],.sl false 0 []]),[],0,[]):=by
 unfold xz;rw[zq];simp -implicitDefEqProofs only[go_sem,simprocAttr,zy,xx,w8,i8]
theorem zao(k:Int)(hk:k<7)(vs:List (Bool×List Int))(cs:List Cz)(N:List Int):xz be es Y rz rb rp k (.ref 5) vs cs [.cells false true 3 (N.map zx)]=hd1 be es Y jy vs cs rz rb rp k 0 false (.ref 5) (.sl false 0 []) (.sl false 0 []) [.cells false true 3 (N.map zx)]:=by
 unfold xz hd1;have h1:decide (k<7)=true:=decide_eq_true hk;rw[zq];simp -implicitDefEqProofs only[go_sem,simprocAttr,zy,xx,w8,i8,h1]
 try rfl
theorem yyb(vs:List (Bool×List Int))(cs:List Cz)(N:List Int):xz be es Y rz rb rp 7 (.ref 5) vs cs [.cells false true 3 (N.map zx)]=some (.ret (.tup [.agg [.sl true 1 (vs.map rwV),.int .i64 Y.n,.sl true 3 (cs.map czV)],.sl true 1 (N.map zx)]),[],0,[]):=by
 unfold xz;rw[zq];simp -implicitDefEqProofs only[go_sem,simprocAttr,zy,xx,w8,i8]
variable (be:Bool) (es:List Int) (Y:Cx) (rz:Nat) (rb:Bool) (rp:List Int)
theorem yy0(hes:es.length=1)(v0 a0 b0:Int)(hq:decide (0<IntKind.i64.wrap (3+(IntKind.i64.wrap Y.o).tmod 4))=true):hd0 be es Y jy rz rb rp 0 1 false (.sl false 0 []) (.ref 3) (.ref 4) [.cells false true 3 [.int .i64 v0],.cells false true 100 [.agg [.int .i64 a0,.int .i64 b0]]]=xz be es Y rz rb rp 1 (.sl false 0 []) [(true,[v0])] [⟨[99,97,117,115,101,48],0,true,[(a0,b0)]⟩] []:=by
 unfold hd0 xz;have h1:((es.length:Nat):Int)=1:=by omega
 have w1:IntKind.i64.wrap 1=1:=rfl;have m1:decide (1<maxRow)=true:=by decide
 have m2:decide (6<xg)=true:=by decide
 rw[zq];simp -implicitDefEqProofs only[go_sem,simprocAttr,zy,xx,w8,i8,h1,yx,hq,w1,m1,m2];rfl
theorem yyz(hes:es.length=1)(v0 a0 b0:Int)(hq:decide (0<IntKind.i64.wrap (3+(IntKind.i64.wrap Y.o).tmod 4))=true):hd0 be es Y jy rz rb rp 0 1 true (.sl false 0 []) (.ref 3) (.ref 4) [.cells false true 3 [.int .i64 v0],.cells false true 100 [.agg [.int .i64 a0,.int .i64 b0]]]=xz be es Y rz rb rp 1 (.ref 5) [(true,[v0])] [⟨[99,97,117,115,101,48],0,true,[(a0,b0)]⟩] [.cells false true 3 (List.map zx [0])]:=by
 unfold hd0 xz;have h1:((es.length:Nat):Int)=1:=by omega
 have w1:IntKind.i64.wrap 1=1:=rfl;have m1:decide (1<maxRow)=true:=by decide
 have m2:decide (6<xg)=true:=by decide
 rw[zq];simp -implicitDefEqProofs only[go_sem,simprocAttr,zy,xx,w8,i8,h1,yx,hq,w1,m1,m2];rfl
theorem znt(k:Int)(hk:0≤k∧k<7)(vs:List (Bool×List Int))(cs:List Cz)(N:List Int)(hvs:vs.length≤7)(hcs:cs.length≤7)(hN:N.length≤7)(u:UInt8)(q1:(zu T).call 8 [.int .i64 k] [] 0 []=some (.str [u],[],0,[]))(hes:es.length=1)(v0 a0 b0:Int)(hq:decide (k<IntKind.i64.wrap (3+(IntKind.i64.wrap Y.o).tmod 4))=true):
  hd1 be es Y jy vs cs rz rb rp k 1 false (.sl false 0 []) (.ref 5) (.ref 6) ([]++ [.cells false true 3 [.int .i64 v0],.cells false true 100 [.agg [.int .i64 a0,.int .i64 b0]]])=xz be es Y rz rb rp (k+1) (.sl false 0 []) (vs++ [(true,[v0])]) (cs++ [⟨[99,97,117,115,101,u],k,true,[(a0,b0)]⟩]) []:=by
 unfold hd1 xz;have h1:((es.length:Nat):Int)=1:=by omega
 have w1:IntKind.i64.wrap (k+1)=k+1:=zd (by omega);have m1:decide (1<maxRow)=true:=by decide
 have m2:decide (6<xg)=true:=by decide
 have m3:decide (vs.length+1<maxRow)=true:=decide_eq_true (by unfold maxRow;omega);have m4:decide (cs.length+1<maxRow)=true:=decide_eq_true (by unfold maxRow;omega);have m5:decide (N.length+1<maxRow)=true:=decide_eq_true (by unfold maxRow;omega);rw[zq];simp -implicitDefEqProofs only[go_sem,simprocAttr,zy,xx,w8,i8,h1,q1,hq,w1,m1,m2,m3,m4,m5]
 try simp only[List.map_append,List.map_cons,List.map_nil]
 try rfl
theorem yji(k:Int)(hk:0≤k∧k<7)(vs:List (Bool×List Int))(cs:List Cz)(N:List Int)(hvs:vs.length≤7)(hcs:cs.length≤7)(hN:N.length≤7)(u:UInt8)(q1:(zu T).call 8 [.int .i64 k] [] 0 []=some (.str [u],[],0,[]))(hes:es.length=1)(v0 a0 b0:Int)(hq:decide (k<IntKind.i64.wrap (3+(IntKind.i64.wrap Y.o).tmod 4))=true):
  hd1 be es Y jy vs cs rz rb rp k 1 true (.sl false 0 []) (.ref 5) (.ref 6) ([]++ [.cells false true 3 [.int .i64 v0],.cells false true 100 [.agg [.int .i64 a0,.int .i64 b0]]])=xz be es Y rz rb rp (k+1) (.ref 5) (vs++ [(true,[v0])]) (cs++ [⟨[99,97,117,115,101,u],k,true,[(a0,b0)]⟩]) [.cells false true 3 (List.map zx [k])]:=by
 unfold hd1 xz;have h1:((es.length:Nat):Int)=1:=by omega
 have w1:IntKind.i64.wrap (k+1)=k+1:=zd (by omega);have m1:decide (1<maxRow)=true:=by decide
 have m2:decide (6<xg)=true:=by decide
 have m3:decide (vs.length+1<maxRow)=true:=decide_eq_true (by unfold maxRow;omega);have m4:decide (cs.length+1<maxRow)=true:=decide_eq_true (by unfold maxRow;omega);have m5:decide (N.length+1<maxRow)=true:=decide_eq_true (by unfold maxRow;omega);rw[zq];simp -implicitDefEqProofs only[go_sem,simprocAttr,zy,xx,w8,i8,h1,q1,hq,w1,m1,m2,m3,m4,m5]
 try simp only[List.map_append,List.map_cons,List.map_nil]
 try rfl
theorem yyu(k:Int)(hk:0≤k∧k<7)(vs:List (Bool×List Int))(cs:List Cz)(N:List Int)(hvs:vs.length≤7)(hcs:cs.length≤7)(hN:N.length≤7)(u:UInt8)(q1:(zu T).call 8 [.int .i64 k] [] 0 []=some (.str [u],[],0,[]))(hes:es.length=1)(v0 a0 b0:Int)(hq:decide (k<IntKind.i64.wrap (3+(IntKind.i64.wrap Y.o).tmod 4))=false):
  hd1 be es Y jy vs cs rz rb rp k 1 false (.sl false 0 []) (.ref 5) (.ref 6) ([]++ [.cells false true 3 [.int .i64 v0],.cells false true 100 [.agg [.int .i64 a0,.int .i64 b0]]])=xz be es Y rz rb rp (k+1) (.sl false 0 []) (vs++ [(true,[v0])]) cs []:=by
 unfold hd1 xz;have h1:((es.length:Nat):Int)=1:=by omega
 have w1:IntKind.i64.wrap (k+1)=k+1:=zd (by omega);have m1:decide (1<maxRow)=true:=by decide
 have m2:decide (6<xg)=true:=by decide
 have m3:decide (vs.length+1<maxRow)=true:=decide_eq_true (by unfold maxRow;omega);have m4:decide (cs.length+1<maxRow)=true:=decide_eq_true (by unfold maxRow;omega);have m5:decide (N.length+1<maxRow)=true:=decide_eq_true (by unfold maxRow;omega);rw[zq];simp -implicitDefEqProofs only[go_sem,simprocAttr,zy,xx,w8,i8,h1,q1,hq,w1,m1,m2,m3,m4,m5]
 try simp only[List.map_append,List.map_cons,List.map_nil]
 try rfl
theorem zns(k:Int)(hk:0≤k∧k<7)(vs:List (Bool×List Int))(cs:List Cz)(N:List Int)(hvs:vs.length≤7)(hcs:cs.length≤7)(hN:N.length≤7)(u:UInt8)(q1:(zu T).call 8 [.int .i64 k] [] 0 []=some (.str [u],[],0,[]))(hes:es.length=1)(v0 a0 b0:Int)(hq:decide (k<IntKind.i64.wrap (3+(IntKind.i64.wrap Y.o).tmod 4))=true):
  hd1 be es Y jy vs cs rz rb rp k 1 false (.ref 5) (.ref 6) (.ref 7) ([.cells false true 3 (N.map zx)]++ [.cells false true 3 [.int .i64 v0],.cells false true 100 [.agg [.int .i64 a0,.int .i64 b0]]])=xz be es Y rz rb rp (k+1) (.ref 5) (vs++ [(true,[v0])]) (cs++ [⟨[99,97,117,115,101,u],k,true,[(a0,b0)]⟩]) [.cells false true 3 (N.map zx)]:=by
 unfold hd1 xz;have h1:((es.length:Nat):Int)=1:=by omega
 have w1:IntKind.i64.wrap (k+1)=k+1:=zd (by omega);have m1:decide (1<maxRow)=true:=by decide
 have m2:decide (6<xg)=true:=by decide
 have m3:decide (vs.length+1<maxRow)=true:=decide_eq_true (by unfold maxRow;omega);have m4:decide (cs.length+1<maxRow)=true:=decide_eq_true (by unfold maxRow;omega);have m5:decide (N.length+1<maxRow)=true:=decide_eq_true (by unfold maxRow;omega);rw[zq];simp -implicitDefEqProofs only[go_sem,simprocAttr,zy,xx,w8,i8,h1,q1,hq,w1,m1,m2,m3,m4,m5]
 try simp only[List.map_append,List.map_cons,List.map_nil]
 try rfl
theorem yjh(k:Int)(hk:0≤k∧k<7)(vs:List (Bool×List Int))(cs:List Cz)(N:List Int)(hvs:vs.length≤7)(hcs:cs.length≤7)(hN:N.length≤7)(u:UInt8)(q1:(zu T).call 8 [.int .i64 k] [] 0 []=some (.str [u],[],0,[]))(hes:es.length=1)(v0 a0 b0:Int)(hq:decide (k<IntKind.i64.wrap (3+(IntKind.i64.wrap Y.o).tmod 4))=true):
  hd1 be es Y jy vs cs rz rb rp k 1 true (.ref 5) (.ref 6) (.ref 7) ([.cells false true 3 (N.map zx)]++ [.cells false true 3 [.int .i64 v0],.cells false true 100 [.agg [.int .i64 a0,.int .i64 b0]]])=xz be es Y rz rb rp (k+1) (.ref 5) (vs++ [(true,[v0])]) (cs++ [⟨[99,97,117,115,101,u],k,true,[(a0,b0)]⟩]) [.cells false true 3 ((N++ [k]).map zx)]:=by
 unfold hd1 xz;have h1:((es.length:Nat):Int)=1:=by omega
 have w1:IntKind.i64.wrap (k+1)=k+1:=zd (by omega);have m1:decide (1<maxRow)=true:=by decide
 have m2:decide (6<xg)=true:=by decide
 have m3:decide (vs.length+1<maxRow)=true:=decide_eq_true (by unfold maxRow;omega);have m4:decide (cs.length+1<maxRow)=true:=decide_eq_true (by unfold maxRow;omega);have m5:decide (N.length+1<maxRow)=true:=decide_eq_true (by unfold maxRow;omega);rw[zq];simp -implicitDefEqProofs only[go_sem,simprocAttr,zy,xx,w8,i8,h1,q1,hq,w1,m1,m2,m3,m4,m5]
 try simp only[List.map_append,List.map_cons,List.map_nil]
 try rfl
theorem yyt(k:Int)(hk:0≤k∧k<7)(vs:List (Bool×List Int))(cs:List Cz)(N:List Int)(hvs:vs.length≤7)(hcs:cs.length≤7)(hN:N.length≤7)(u:UInt8)(q1:(zu T).call 8 [.int .i64 k] [] 0 []=some (.str [u],[],0,[]))(hes:es.length=1)(v0 a0 b0:Int)(hq:decide (k<IntKind.i64.wrap (3+(IntKind.i64.wrap Y.o).tmod 4))=false):
  hd1 be es Y jy vs cs rz rb rp k 1 false (.ref 5) (.ref 6) (.ref 7) ([.cells false true 3 (N.map zx)]++ [.cells false true 3 [.int .i64 v0],.cells false true 100 [.agg [.int .i64 a0,.int .i64 b0]]])=xz be es Y rz rb rp (k+1) (.ref 5) (vs++ [(true,[v0])]) cs [.cells false true 3 (N.map zx)]:=by
 unfold hd1 xz;have h1:((es.length:Nat):Int)=1:=by omega
 have w1:IntKind.i64.wrap (k+1)=k+1:=zd (by omega);have m1:decide (1<maxRow)=true:=by decide
 have m2:decide (6<xg)=true:=by decide
 have m3:decide (vs.length+1<maxRow)=true:=decide_eq_true (by unfold maxRow;omega);have m4:decide (cs.length+1<maxRow)=true:=decide_eq_true (by unfold maxRow;omega);have m5:decide (N.length+1<maxRow)=true:=decide_eq_true (by unfold maxRow;omega);rw[zq];simp -implicitDefEqProofs only[go_sem,simprocAttr,zy,xx,w8,i8,h1,q1,hq,w1,m1,m2,m3,m4,m5]
 try simp only[List.map_append,List.map_cons,List.map_nil]
 try rfl
variable (be:Bool) (es:List Int) (Y:Cx) (rz:Nat) (rb:Bool) (rp:List Int)
theorem yyy(hes:es.length=2)(v0 a0 b0 v1 a1 b1:Int)(hq:decide (0<IntKind.i64.wrap (3+(IntKind.i64.wrap Y.o).tmod 4))=true):hd0 be es Y jy rz rb rp 0 2 false (.sl false 0 []) (.ref 3) (.ref 4) [.cells false true 3 [.int .i64 v0,.int .i64 v1],.cells false true 100 [.agg [.int .i64 a0,.int .i64 b0],.agg [.int .i64 a1,.int .i64 b1]]]=xz be es Y rz rb rp 1 (.sl false 0 []) [(true,[v0,v1])] [⟨[99,97,117,115,101,48],0,true,[(a0,b0),(a1,b1)]⟩] []:=by
 unfold hd0 xz;have h1:((es.length:Nat):Int)=2:=by omega
 have w1:IntKind.i64.wrap 1=1:=rfl;have m1:decide (1<maxRow)=true:=by decide
 have m2:decide (6<xg)=true:=by decide
 rw[zq];simp -implicitDefEqProofs only[go_sem,simprocAttr,zy,xx,w8,i8,h1,yx,hq,w1,m1,m2];rfl
theorem yyx(hes:es.length=2)(v0 a0 b0 v1 a1 b1:Int)(hq:decide (0<IntKind.i64.wrap (3+(IntKind.i64.wrap Y.o).tmod 4))=true):hd0 be es Y jy rz rb rp 0 2 true (.sl false 0 []) (.ref 3) (.ref 4) [.cells false true 3 [.int .i64 v0,.int .i64 v1],.cells false true 100 [.agg [.int .i64 a0,.int .i64 b0],.agg [.int .i64 a1,.int .i64 b1]]]=xz be es Y rz rb rp 1 (.ref 5) [(true,[v0,v1])] [⟨[99,97,117,115,101,48],0,true,[(a0,b0),(a1,b1)]⟩] [.cells false true 3 (List.map zx [0])]:=by
 unfold hd0 xz;have h1:((es.length:Nat):Int)=2:=by omega
 have w1:IntKind.i64.wrap 1=1:=rfl;have m1:decide (1<maxRow)=true:=by decide
 have m2:decide (6<xg)=true:=by decide
 rw[zq];simp -implicitDefEqProofs only[go_sem,simprocAttr,zy,xx,w8,i8,h1,yx,hq,w1,m1,m2];rfl
theorem znr(k:Int)(hk:0≤k∧k<7)(vs:List (Bool×List Int))(cs:List Cz)(N:List Int)(hvs:vs.length≤7)(hcs:cs.length≤7)(hN:N.length≤7)(u:UInt8)(q1:(zu T).call 8 [.int .i64 k] [] 0 []=some (.str [u],[],0,[]))(hes:es.length=2)(v0 a0 b0 v1 a1 b1:Int)(hq:decide (k<IntKind.i64.wrap (3+(IntKind.i64.wrap Y.o).tmod 4))=true):
  hd1 be es Y jy vs cs rz rb rp k 2 false (.sl false 0 []) (.ref 5) (.ref 6) ([]++ [.cells false true 3 [.int .i64 v0,.int .i64 v1],.cells false true 100 [.agg [.int .i64 a0,.int .i64 b0],.agg [.int .i64 a1,.int .i64 b1]]])=xz be es Y rz rb rp (k+1) (.sl false 0 []) (vs++ [(true,[v0,v1])]) (cs++ [⟨[99,97,117,115,101,u],k,true,[(a0,b0),(a1,b1)]⟩]) []:=by
 unfold hd1 xz;have h1:((es.length:Nat):Int)=2:=by omega
 have w1:IntKind.i64.wrap (k+1)=k+1:=zd (by omega);have m1:decide (1<maxRow)=true:=by decide
 have m2:decide (6<xg)=true:=by decide
 have m3:decide (vs.length+1<maxRow)=true:=decide_eq_true (by unfold maxRow;omega);have m4:decide (cs.length+1<maxRow)=true:=decide_eq_true (by unfold maxRow;omega);have m5:decide (N.length+1<maxRow)=true:=decide_eq_true (by unfold maxRow;omega);rw[zq];simp -implicitDefEqProofs only[go_sem,simprocAttr,zy,xx,w8,i8,h1,q1,hq,w1,m1,m2,m3,m4,m5]
 try simp only[List.map_append,List.map_cons,List.map_nil]
 try rfl
theorem yjg(k:Int)(hk:0≤k∧k<7)(vs:List (Bool×List Int))(cs:List Cz)(N:List Int)(hvs:vs.length≤7)(hcs:cs.length≤7)(hN:N.length≤7)(u:UInt8)(q1:(zu T).call 8 [.int .i64 k] [] 0 []=some (.str [u],[],0,[]))(hes:es.length=2)(v0 a0 b0 v1 a1 b1:Int)(hq:decide (k<IntKind.i64.wrap (3+(IntKind.i64.wrap Y.o).tmod 4))=true):
  hd1 be es Y jy vs cs rz rb rp k 2 true (.sl false 0 []) (.ref 5) (.ref 6) ([]++ [.cells false true 3 [.int .i64 v0,.int .i64 v1],.cells false true 100 [.agg [.int .i64 a0,.int .i64 b0],.agg [.int .i64 a1,.int .i64 b1]]])=xz be es Y rz rb rp (k+1) (.ref 5) (vs++ [(true,[v0,v1])]) (cs++ [⟨[99,97,117,115,101,u],k,true,[(a0,b0),(a1,b1)]⟩]) [.cells false true 3 (List.map zx [k])]:=by
 unfold hd1 xz;have h1:((es.length:Nat):Int)=2:=by omega
 have w1:IntKind.i64.wrap (k+1)=k+1:=zd (by omega);have m1:decide (1<maxRow)=true:=by decide
 have m2:decide (6<xg)=true:=by decide
 have m3:decide (vs.length+1<maxRow)=true:=decide_eq_true (by unfold maxRow;omega);have m4:decide (cs.length+1<maxRow)=true:=decide_eq_true (by unfold maxRow;omega);have m5:decide (N.length+1<maxRow)=true:=decide_eq_true (by unfold maxRow;omega);rw[zq];simp -implicitDefEqProofs only[go_sem,simprocAttr,zy,xx,w8,i8,h1,q1,hq,w1,m1,m2,m3,m4,m5]
 try simp only[List.map_append,List.map_cons,List.map_nil]
 try rfl
theorem yys(k:Int)(hk:0≤k∧k<7)(vs:List (Bool×List Int))(cs:List Cz)(N:List Int)(hvs:vs.length≤7)(hcs:cs.length≤7)(hN:N.length≤7)(u:UInt8)(q1:(zu T).call 8 [.int .i64 k] [] 0 []=some (.str [u],[],0,[]))(hes:es.length=2)(v0 a0 b0 v1 a1 b1:Int)(hq:decide (k<IntKind.i64.wrap (3+(IntKind.i64.wrap Y.o).tmod 4))=false):
  hd1 be es Y jy vs cs rz rb rp k 2 false (.sl false 0 []) (.ref 5) (.ref 6) ([]++ [.cells false true 3 [.int .i64 v0,.int .i64 v1],.cells false true 100 [.agg [.int .i64 a0,.int .i64 b0],.agg [.int .i64 a1,.int .i64 b1]]])=xz be es Y rz rb rp (k+1) (.sl false 0 []) (vs++ [(true,[v0,v1])]) cs []:=by
 unfold hd1 xz;have h1:((es.length:Nat):Int)=2:=by omega
 have w1:IntKind.i64.wrap (k+1)=k+1:=zd (by omega);have m1:decide (1<maxRow)=true:=by decide
 have m2:decide (6<xg)=true:=by decide
 have m3:decide (vs.length+1<maxRow)=true:=decide_eq_true (by unfold maxRow;omega);have m4:decide (cs.length+1<maxRow)=true:=decide_eq_true (by unfold maxRow;omega);have m5:decide (N.length+1<maxRow)=true:=decide_eq_true (by unfold maxRow;omega);rw[zq];simp -implicitDefEqProofs only[go_sem,simprocAttr,zy,xx,w8,i8,h1,q1,hq,w1,m1,m2,m3,m4,m5]
 try simp only[List.map_append,List.map_cons,List.map_nil]
 try rfl
theorem znq(k:Int)(hk:0≤k∧k<7)(vs:List (Bool×List Int))(cs:List Cz)(N:List Int)(hvs:vs.length≤7)(hcs:cs.length≤7)(hN:N.length≤7)(u:UInt8)(q1:(zu T).call 8 [.int .i64 k] [] 0 []=some (.str [u],[],0,[]))(hes:es.length=2)(v0 a0 b0 v1 a1 b1:Int)(hq:decide (k<IntKind.i64.wrap (3+(IntKind.i64.wrap Y.o).tmod 4))=true):
  hd1 be es Y jy vs cs rz rb rp k 2 false (.ref 5) (.ref 6) (.ref 7) ([.cells false true 3 (N.map zx)]++ [.cells false true 3 [.int .i64 v0,.int .i64 v1],.cells false true 100 [.agg [.int .i64 a0,.int .i64 b0],.agg [.int .i64 a1,.int .i64 b1]]])=xz be es Y rz rb rp (k+1) (.ref 5) (vs++ [(true,[v0,v1])]) (cs++ [⟨[99,97,117,115,101,u],k,true,[(a0,b0),(a1,b1)]⟩]) [.cells false true 3 (N.map zx)]:=by
 unfold hd1 xz;have h1:((es.length:Nat):Int)=2:=by omega
 have w1:IntKind.i64.wrap (k+1)=k+1:=zd (by omega);have m1:decide (1<maxRow)=true:=by decide
 have m2:decide (6<xg)=true:=by decide
 have m3:decide (vs.length+1<maxRow)=true:=decide_eq_true (by unfold maxRow;omega);have m4:decide (cs.length+1<maxRow)=true:=decide_eq_true (by unfold maxRow;omega);have m5:decide (N.length+1<maxRow)=true:=decide_eq_true (by unfold maxRow;omega);rw[zq];simp -implicitDefEqProofs only[go_sem,simprocAttr,zy,xx,w8,i8,h1,q1,hq,w1,m1,m2,m3,m4,m5]
 try simp only[List.map_append,List.map_cons,List.map_nil]
 try rfl
theorem yjf(k:Int)(hk:0≤k∧k<7)(vs:List (Bool×List Int))(cs:List Cz)(N:List Int)(hvs:vs.length≤7)(hcs:cs.length≤7)(hN:N.length≤7)(u:UInt8)(q1:(zu T).call 8 [.int .i64 k] [] 0 []=some (.str [u],[],0,[]))(hes:es.length=2)(v0 a0 b0 v1 a1 b1:Int)(hq:decide (k<IntKind.i64.wrap (3+(IntKind.i64.wrap Y.o).tmod 4))=true):
  hd1 be es Y jy vs cs rz rb rp k 2 true (.ref 5) (.ref 6) (.ref 7) ([.cells false true 3 (N.map zx)]++ [.cells false true 3 [.int .i64 v0,.int .i64 v1],.cells false true 100 [.agg [.int .i64 a0,.int .i64 b0],.agg [.int .i64 a1,.int .i64 b1]]])=xz be es Y rz rb rp (k+1) (.ref 5) (vs++ [(true,[v0,v1])]) (cs++ [⟨[99,97,117,115,101,u],k,true,[(a0,b0),(a1,b1)]⟩]) [.cells false true 3 ((N++ [k]).map zx)]:=by
 unfold hd1 xz;have h1:((es.length:Nat):Int)=2:=by omega
 have w1:IntKind.i64.wrap (k+1)=k+1:=zd (by omega);have m1:decide (1<maxRow)=true:=by decide
 have m2:decide (6<xg)=true:=by decide
 have m3:decide (vs.length+1<maxRow)=true:=decide_eq_true (by unfold maxRow;omega);have m4:decide (cs.length+1<maxRow)=true:=decide_eq_true (by unfold maxRow;omega);have m5:decide (N.length+1<maxRow)=true:=decide_eq_true (by unfold maxRow;omega);rw[zq];simp -implicitDefEqProofs only[go_sem,simprocAttr,zy,xx,w8,i8,h1,q1,hq,w1,m1,m2,m3,m4,m5]
 try simp only[List.map_append,List.map_cons,List.map_nil]
 try rfl
theorem yyr(k:Int)(hk:0≤k∧k<7)(vs:List (Bool×List Int))(cs:List Cz)(N:List Int)(hvs:vs.length≤7)(hcs:cs.length≤7)(hN:N.length≤7)(u:UInt8)(q1:(zu T).call 8 [.int .i64 k] [] 0 []=some (.str [u],[],0,[]))(hes:es.length=2)(v0 a0 b0 v1 a1 b1:Int)(hq:decide (k<IntKind.i64.wrap (3+(IntKind.i64.wrap Y.o).tmod 4))=false):
  hd1 be es Y jy vs cs rz rb rp k 2 false (.ref 5) (.ref 6) (.ref 7) ([.cells false true 3 (N.map zx)]++ [.cells false true 3 [.int .i64 v0,.int .i64 v1],.cells false true 100 [.agg [.int .i64 a0,.int .i64 b0],.agg [.int .i64 a1,.int .i64 b1]]])=xz be es Y rz rb rp (k+1) (.ref 5) (vs++ [(true,[v0,v1])]) cs [.cells false true 3 (N.map zx)]:=by
 unfold hd1 xz;have h1:((es.length:Nat):Int)=2:=by omega
 have w1:IntKind.i64.wrap (k+1)=k+1:=zd (by omega);have m1:decide (1<maxRow)=true:=by decide
 have m2:decide (6<xg)=true:=by decide
 have m3:decide (vs.length+1<maxRow)=true:=decide_eq_true (by unfold maxRow;omega);have m4:decide (cs.length+1<maxRow)=true:=decide_eq_true (by unfold maxRow;omega);have m5:decide (N.length+1<maxRow)=true:=decide_eq_true (by unfold maxRow;omega);rw[zq];simp -implicitDefEqProofs only[go_sem,simprocAttr,zy,xx,w8,i8,h1,q1,hq,w1,m1,m2,m3,m4,m5]
 try simp only[List.map_append,List.map_cons,List.map_nil]
 try rfl
variable (be:Bool) (es:List Int) (Y:Cx) (rz:Nat) (rb:Bool) (rp:List Int)
theorem yyw(hes:es.length=3)(v0 a0 b0 v1 a1 b1 v2 a2 b2:Int)(hq:decide (0<IntKind.i64.wrap (3+(IntKind.i64.wrap Y.o).tmod 4))=true):hd0 be es Y jy rz rb rp 0 3 false (.sl false 0 []) (.ref 3) (.ref 4) [.cells false true 3 [.int .i64 v0,.int .i64 v1,.int .i64 v2],.cells false true 100 [.agg [.int .i64 a0,.int .i64 b0],.agg [.int .i64 a1,.int .i64 b1],.agg [.int .i64 a2,.int .i64 b2]]]=xz be es Y rz rb rp 1 (.sl false 0 []) [(true,[v0,v1,v2])] [⟨[99,97,117,115,101,48],0,true,[(a0,b0),(a1,b1),(a2,b2)]⟩] []:=by
 unfold hd0 xz;have h1:((es.length:Nat):Int)=3:=by omega
 have w1:IntKind.i64.wrap 1=1:=rfl;have m1:decide (1<maxRow)=true:=by decide
 have m2:decide (6<xg)=true:=by decide
 rw[zq];simp -implicitDefEqProofs only[go_sem,simprocAttr,zy,xx,w8,i8,h1,yx,hq,w1,m1,m2];rfl
theorem yyv(hes:es.length=3)(v0 a0 b0 v1 a1 b1 v2 a2 b2:Int)(hq:decide (0<IntKind.i64.wrap (3+(IntKind.i64.wrap Y.o).tmod 4))=true):hd0 be es Y jy rz rb rp 0 3 true (.sl false 0 []) (.ref 3) (.ref 4) [.cells false true 3 [.int .i64 v0,.int .i64 v1,.int .i64 v2],.cells false true 100 [.agg [.int .i64 a0,.int .i64 b0],.agg [.int .i64 a1,.int .i64 b1],.agg [.int .i64 a2,.int .i64 b2]]]=xz be es Y rz rb rp 1 (.ref 5) [(true,[v0,v1,v2])] [⟨[99,97,117,115,101,48],0,true,[(a0,b0),(a1,b1),(a2,b2)]⟩] [.cells false true 3 (List.map zx [0])]:=by
 unfold hd0 xz;have h1:((es.length:Nat):Int)=3:=by omega
 have w1:IntKind.i64.wrap 1=1:=rfl;have m1:decide (1<maxRow)=true:=by decide
 have m2:decide (6<xg)=true:=by decide
 rw[zq];simp -implicitDefEqProofs only[go_sem,simprocAttr,zy,xx,w8,i8,h1,yx,hq,w1,m1,m2];rfl
theorem znp(k:Int)(hk:0≤k∧k<7)(vs:List (Bool×List Int))(cs:List Cz)(N:List Int)(hvs:vs.length≤7)(hcs:cs.length≤7)(hN:N.length≤7)(u:UInt8)(q1:(zu T).call 8 [.int .i64 k] [] 0 []=some (.str [u],[],0,[]))(hes:es.length=3)(v0 a0 b0 v1 a1 b1 v2 a2 b2:Int)(hq:decide (k<IntKind.i64.wrap (3+(IntKind.i64.wrap Y.o).tmod 4))=true):
  hd1 be es Y jy vs cs rz rb rp k 3 false (.sl false 0 []) (.ref 5) (.ref 6) ([]++ [.cells false true 3 [.int .i64 v0,.int .i64 v1,.int .i64 v2],.cells false true 100 [.agg [.int .i64 a0,.int .i64 b0],.agg [.int .i64 a1,.int .i64 b1],.agg [.int .i64 a2,.int .i64 b2]]])=xz be es Y rz rb rp (k+1) (.sl false 0 []) (vs++ [(true,[v0,v1,v2])]) (cs++ [⟨[99,97,117,115,101,u],k,true,[(a0,b0),(a1,b1),(a2,b2)]⟩]) []:=by
 unfold hd1 xz;have h1:((es.length:Nat):Int)=3:=by omega
 have w1:IntKind.i64.wrap (k+1)=k+1:=zd (by omega);have m1:decide (1<maxRow)=true:=by decide
 have m2:decide (6<xg)=true:=by decide
 have m3:decide (vs.length+1<maxRow)=true:=decide_eq_true (by unfold maxRow;omega);have m4:decide (cs.length+1<maxRow)=true:=decide_eq_true (by unfold maxRow;omega);have m5:decide (N.length+1<maxRow)=true:=decide_eq_true (by unfold maxRow;omega);rw[zq];simp -implicitDefEqProofs only[go_sem,simprocAttr,zy,xx,w8,i8,h1,q1,hq,w1,m1,m2,m3,m4,m5]
 try simp only[List.map_append,List.map_cons,List.map_nil]
 try rfl
theorem yje(k:Int)(hk:0≤k∧k<7)(vs:List (Bool×List Int))(cs:List Cz)(N:List Int)(hvs:vs.length≤7)(hcs:cs.length≤7)(hN:N.length≤7)(u:UInt8)(q1:(zu T).call 8 [.int .i64 k] [] 0 []=some (.str [u],[],0,[]))(hes:es.length=3)(v0 a0 b0 v1 a1 b1 v2 a2 b2:Int)(hq:decide (k<IntKind.i64.wrap (3+(IntKind.i64.wrap Y.o).tmod 4))=true):
  hd1 be es Y jy vs cs rz rb rp k 3 true (.sl false 0 []) (.ref 5) (.ref 6) ([]++ [.cells false true 3 [.int .i64 v0,.int .i64 v1,.int .i64 v2],.cells false true 100 [.agg [.int .i64 a0,.int .i64 b0],.agg [.int .i64 a1,.int .i64 b1],.agg [.int .i64 a2,.int .i64 b2]]])=xz be es Y rz rb rp (k+1) (.ref 5) (vs++ [(true,[v0,v1,v2])]) (cs++ [⟨[99,97,117,115,101,u],k,true,[(a0,b0),(a1,b1),(a2,b2)]⟩]) [.cells false true 3 (List.map zx [k])]:=by
 unfold hd1 xz;have h1:((es.length:Nat):Int)=3:=by omega
 have w1:IntKind.i64.wrap (k+1)=k+1:=zd (by omega);have m1:decide (1<maxRow)=true:=by decide
 have m2:decide (6<xg)=true:=by decide
 have m3:decide (vs.length+1<maxRow)=true:=decide_eq_true (by unfold maxRow;omega);have m4:decide (cs.length+1<maxRow)=true:=decide_eq_true (by unfold maxRow;omega);have m5:decide (N.length+1<maxRow)=true:=decide_eq_true (by unfold maxRow;omega);rw[zq];simp -implicitDefEqProofs only[go_sem,simprocAttr,zy,xx,w8,i8,h1,q1,hq,w1,m1,m2,m3,m4,m5]
 try simp only[List.map_append,List.map_cons,List.map_nil]
 try rfl
theorem yyq(k:Int)(hk:0≤k∧k<7)(vs:List (Bool×List Int))(cs:List Cz)(N:List Int)(hvs:vs.length≤7)(hcs:cs.length≤7)(hN:N.length≤7)(u:UInt8)(q1:(zu T).call 8 [.int .i64 k] [] 0 []=some (.str [u],[],0,[]))(hes:es.length=3)(v0 a0 b0 v1 a1 b1 v2 a2 b2:Int)(hq:decide (k<IntKind.i64.wrap (3+(IntKind.i64.wrap Y.o).tmod 4))=false):
  hd1 be es Y jy vs cs rz rb rp k 3 false (.sl false 0 []) (.ref 5) (.ref 6) ([]++ [.cells false true 3 [.int .i64 v0,.int .i64 v1,.int .i64 v2],.cells false true 100 [.agg [.int .i64 a0,.int .i64 b0],.agg [.int .i64 a1,.int .i64 b1],.agg [.int .i64 a2,.int .i64 b2]]])=xz be es Y rz rb rp (k+1) (.sl false 0 []) (vs++ [(true,[v0,v1,v2])]) cs []:=by
 unfold hd1 xz;have h1:((es.length:Nat):Int)=3:=by omega
 have w1:IntKind.i64.wrap (k+1)=k+1:=zd (by omega);have m1:decide (1<maxRow)=true:=by decide
 have m2:decide (6<xg)=true:=by decide
 have m3:decide (vs.length+1<maxRow)=true:=decide_eq_true (by unfold maxRow;omega);have m4:decide (cs.length+1<maxRow)=true:=decide_eq_true (by unfold maxRow;omega);have m5:decide (N.length+1<maxRow)=true:=decide_eq_true (by unfold maxRow;omega);rw[zq];simp -implicitDefEqProofs only[go_sem,simprocAttr,zy,xx,w8,i8,h1,q1,hq,w1,m1,m2,m3,m4,m5]
 try simp only[List.map_append,List.map_cons,List.map_nil]
 try rfl
theorem zno(k:Int)(hk:0≤k∧k<7)(vs:List (Bool×List Int))(cs:List Cz)(N:List Int)(hvs:vs.length≤7)(hcs:cs.length≤7)(hN:N.length≤7)(u:UInt8)(q1:(zu T).call 8 [.int .i64 k] [] 0 []=some (.str [u],[],0,[]))(hes:es.length=3)(v0 a0 b0 v1 a1 b1 v2 a2 b2:Int)(hq:decide (k<IntKind.i64.wrap (3+(IntKind.i64.wrap Y.o).tmod 4))=true):
  hd1 be es Y jy vs cs rz rb rp k 3 false (.ref 5) (.ref 6) (.ref 7) ([.cells false true 3 (N.map zx)]++ [.cells false true 3 [.int .i64 v0,.int .i64 v1,.int .i64 v2],.cells false true 100 [.agg [.int .i64 a0,.int .i64 b0],.agg [.int .i64 a1,.int .i64 b1],.agg [.int .i64 a2,.int .i64 b2]]])=xz be es Y rz rb rp (k+1) (.ref 5) (vs++ [(true,[v0,v1,v2])]) (cs++ [⟨[99,97,117,115,101,u],k,true,[(a0,b0),(a1,b1),(a2,b2)]⟩]) [.cells false true 3 (N.map zx)]:=by
 unfold hd1 xz;have h1:((es.length:Nat):Int)=3:=by omega
 have w1:IntKind.i64.wrap (k+1)=k+1:=zd (by omega);have m1:decide (1<maxRow)=true:=by decide
 have m2:decide (6<xg)=true:=by decide
 have m3:decide (vs.length+1<maxRow)=true:=decide_eq_true (by unfold maxRow;omega);have m4:decide (cs.length+1<maxRow)=true:=decide_eq_true (by unfold maxRow;omega);have m5:decide (N.length+1<maxRow)=true:=decide_eq_true (by unfold maxRow;omega);rw[zq];simp -implicitDefEqProofs only[go_sem,simprocAttr,zy,xx,w8,i8,h1,q1,hq,w1,m1,m2,m3,m4,m5]
 try simp only[List.map_append,List.map_cons,List.map_nil]
 try rfl
theorem yjd(k:Int)(hk:0≤k∧k<7)(vs:List (Bool×List Int))(cs:List Cz)(N:List Int)(hvs:vs.length≤7)(hcs:cs.length≤7)(hN:N.length≤7)(u:UInt8)(q1:(zu T).call 8 [.int .i64 k] [] 0 []=some (.str [u],[],0,[]))(hes:es.length=3)(v0 a0 b0 v1 a1 b1 v2 a2 b2:Int)(hq:decide (k<IntKind.i64.wrap (3+(IntKind.i64.wrap Y.o).tmod 4))=true):
  hd1 be es Y jy vs cs rz rb rp k 3 true (.ref 5) (.ref 6) (.ref 7) ([.cells false true 3 (N.map zx)]++ [.cells false true 3 [.int .i64 v0,.int .i64 v1,.int .i64 v2],.cells false true 100 [.agg [.int .i64 a0,.int .i64 b0],.agg [.int .i64 a1,.int .i64 b1],.agg [.int .i64 a2,.int .i64 b2]]])=xz be es Y rz rb rp (k+1) (.ref 5) (vs++ [(true,[v0,v1,v2])]) (cs++ [⟨[99,97,117,115,101,u],k,true,[(a0,b0),(a1,b1),(a2,b2)]⟩]) [.cells false true 3 ((N++ [k]).map zx)]:=by
 unfold hd1 xz;have h1:((es.length:Nat):Int)=3:=by omega
 have w1:IntKind.i64.wrap (k+1)=k+1:=zd (by omega);have m1:decide (1<maxRow)=true:=by decide
 have m2:decide (6<xg)=true:=by decide
 have m3:decide (vs.length+1<maxRow)=true:=decide_eq_true (by unfold maxRow;omega);have m4:decide (cs.length+1<maxRow)=true:=decide_eq_true (by unfold maxRow;omega);have m5:decide (N.length+1<maxRow)=true:=decide_eq_true (by unfold maxRow;omega);rw[zq];simp -implicitDefEqProofs only[go_sem,simprocAttr,zy,xx,w8,i8,h1,q1,hq,w1,m1,m2,m3,m4,m5]
 try simp only[List.map_append,List.map_cons,List.map_nil]
 try rfl
theorem yyp(k:Int)(hk:0≤k∧k<7)(vs:List (Bool×List Int))(cs:List Cz)(N:List Int)(hvs:vs.length≤7)(hcs:cs.length≤7)(hN:N.length≤7)(u:UInt8)(q1:(zu T).call 8 [.int .i64 k] [] 0 []=some (.str [u],[],0,[]))(hes:es.length=3)(v0 a0 b0 v1 a1 b1 v2 a2 b2:Int)(hq:decide (k<IntKind.i64.wrap (3+(IntKind.i64.wrap Y.o).tmod 4))=false):
  hd1 be es Y jy vs cs rz rb rp k 3 false (.ref 5) (.ref 6) (.ref 7) ([.cells false true 3 (N.map zx)]++ [.cells false true 3 [.int .i64 v0,.int .i64 v1,.int .i64 v2],.cells false true 100 [.agg [.int .i64 a0,.int .i64 b0],.agg [.int .i64 a1,.int .i64 b1],.agg [.int .i64 a2,.int .i64 b2]]])=xz be es Y rz rb rp (k+1) (.ref 5) (vs++ [(true,[v0,v1,v2])]) cs [.cells false true 3 (N.map zx)]:=by
 unfold hd1 xz;have h1:((es.length:Nat):Int)=3:=by omega
 have w1:IntKind.i64.wrap (k+1)=k+1:=zd (by omega);have m1:decide (1<maxRow)=true:=by decide
 have m2:decide (6<xg)=true:=by decide
 have m3:decide (vs.length+1<maxRow)=true:=decide_eq_true (by unfold maxRow;omega);have m4:decide (cs.length+1<maxRow)=true:=decide_eq_true (by unfold maxRow;omega);have m5:decide (N.length+1<maxRow)=true:=decide_eq_true (by unfold maxRow;omega);rw[zq];simp -implicitDefEqProofs only[go_sem,simprocAttr,zy,xx,w8,i8,h1,q1,hq,w1,m1,m2,m3,m4,m5]
 try simp only[List.map_append,List.map_cons,List.map_nil]
 try rfl
def mkR(es:List Int)(Y:Cx):Rq where
 m:=es.length
 e:=fun j=>es.getD j 0
 l:=fun k j=>match k,j with
  |0,0=>Y.l00|0,1=>Y.l01|0,_=>Y.l02
  |1,0=>Y.l10|1,1=>Y.l11|1,_=>Y.l12
  |_,0=>Y.l20|_,1=>Y.l21|_,_=>Y.l22
 d:=fun k=>match k with|0=>Y.d0|1=>Y.d1|_=>Y.d2
 n:=Y.n
 o:=(Y.o %4).toNat
theorem ju(x:Rq)(rp:List Int)(k j:Nat)(hk:k<3):x.lost rp k j=bif (rp.any fun y=>y==(k:Int))then 0 else min (x.e j) (x.l k j):=by
 unfold Rq.lost;cases h:rp.any fun y=>y==(k:Int)
 ·have hm:¬(k:Int)∈rp:=fun hm=>by
   rw[List.any_eq_false]at h;exact h _ hm (by simp)
  exact if_pos ⟨hk,hm⟩
 ·refine if_neg ?_
  rintro⟨_,hn⟩;obtain⟨y,hy,he⟩:=List.any_eq_true.1 h;exact hn ((eq_of_beq he)▸hy)
theorem ze2(x:Rq)(rp:List Int)(k j:Nat)(hk:3≤k):x.lost rp k j=0:=by
 unfold Rq.lost;rw[if_neg (by omega)]
theorem w7(rz:Nat)(rb:Bool)(rp:List Int)(hz:rp≠ []→rz=1)(hb:rp.length<1000000)(k:Int):(zu T).call 13 [.sl rb rz (rp.map zx),.int .i64 k] [] 0 []=some (.bool (rp.any fun y=>y==k),[],0,[]):=xd5 k rb rz rp hz hb
theorem xd{z k:Int}(ho:0≤z∧z≤255):decide (k<IntKind.i64.wrap (3+(IntKind.i64.wrap z).tmod 4))=decide (k<3+z %4):=by
 rw[zd (a:=z) (by omega),Int.tmod_eq_emod_of_nonneg ho.1,zd (by omega)]
section
variable (be:Bool) (es:List Int) (Y:Cx) (rz:Nat) (rb:Bool) (rp:List Int)
def wz(k:Int)(vs:List (Bool×List Int))(cs:List Cz)(N:List Int):Option Out:=
 match N with
 | []=>xz be es Y rz rb rp k (.sl false 0 []) vs cs []
 |a::r=>xz be es Y rz rb rp k (.ref 5) vs cs [.cells false true 3 ((a::r).map zx)]
end
end Go.Den.FaT
namespace Go.Den.FaT
open Go Go.Proofs Go.Den
variable (be:Bool) (e0:Int) (Y:Cx) (rz:Nat) (rb:Bool) (rp:List Int)
variable (hz:rp≠ []→rz=1) (hb:rp.length<1000000) (he0:0≤e0∧e0≤65535) (hn:0≤Y.n∧Y.n≤255) (ho:0≤Y.o∧Y.o≤255)
include hz hb he0 hn ho
theorem xds(hl0:0≤Y.l00∧Y.l00≤65535)(hd:0≤Y.d0∧Y.d0≤255):zcc be [e0] Y rz rb rp=wz be [e0] Y rz rb rp 1 [(mkR [e0] Y).row rp 0] [(mkR [e0] Y).cz 0] (if jq (mkR [e0] Y) rp 0=true then [0]else []):=by
 have g:(false||decide (Y.n<(bif (rp.any fun y=>y==0)then 0 else min e0 Y.l00)))=jq (mkR [e0] Y) rp 0:=by
  unfold jq;simp only[mkR,List.length_cons,List.length_nil,List.range_succ,List.range_zero,List.nil_append,List.cons_append,List.any_cons,List.any_nil,ju _ rp 0 _ (by decide),Nat.zero_add,Bool.false_or,Bool.or_false,Bool.or_assoc];rfl
 have r:(mkR [e0] Y).row rp 0=(true,[e0- (bif (rp.any fun y=>y==0)then 0 else min e0 Y.l00)]):=by
  unfold Rq.row;simp only[mkR,List.length_cons,List.length_nil,List.range_succ,List.range_zero,List.nil_append,List.cons_append,List.map_cons,List.map_nil,ju _ rp 0 _ (by decide),Nat.zero_add];rfl
 have z:(mkR [e0] Y).cz 0=⟨[99,97,117,115,101,48],0,true,[(max 0 (min e0 Y.l00- Y.d0),min e0 Y.l00+Y.d0)]⟩:=rfl;rw[r,z,←g];refine(so0 be [e0] Y rz rb rp).trans ?_;refine(zkx be [e0] Y jy rz rb rp _ [] e0 (w7 rz rb rp hz hb _) rfl he0 hl0 hd).trans ?_;cases (false||decide (Y.n<(bif (rp.any fun y=>y==0)then 0 else min e0 Y.l00)))
 ·exact yy0 be [e0] Y rz rb rp rfl (e0- (bif (rp.any fun y=>y==0)then 0 else min e0 Y.l00)) (max 0 (min e0 Y.l00- Y.d0)) (min e0 Y.l00+Y.d0) ((xd ho).trans (decide_eq_true (by omega)))
 ·exact yyz be [e0] Y rz rb rp rfl (e0- (bif (rp.any fun y=>y==0)then 0 else min e0 Y.l00)) (max 0 (min e0 Y.l00- Y.d0)) (min e0 Y.l00+Y.d0) ((xd ho).trans (decide_eq_true (by omega)))
theorem xdr(hl0:0≤Y.l10∧Y.l10≤65535)(hd:0≤Y.d1∧Y.d1≤255)(vs:List (Bool×List Int))(cs:List Cz)(N:List Int)(hvs:vs.length≤7)(hcs:cs.length≤7)(hN:N.length≤7):wz be [e0] Y rz rb rp 1 vs cs N=wz be [e0] Y rz rb rp 2 (vs++ [(mkR [e0] Y).row rp 1]) (cs++ [(mkR [e0] Y).cz 1]) (N++if jq (mkR [e0] Y) rp 1=true then [1]else []):=by
 have g:(false||decide (Y.n<(bif (rp.any fun y=>y==1)then 0 else min e0 Y.l10)))=jq (mkR [e0] Y) rp 1:=by
  unfold jq;simp only[mkR,List.length_cons,List.length_nil,List.range_succ,List.range_zero,List.nil_append,List.cons_append,List.any_cons,List.any_nil,ju _ rp 1 _ (by decide),Nat.zero_add,Bool.false_or,Bool.or_false,Bool.or_assoc];rfl
 have r:(mkR [e0] Y).row rp 1=(true,[e0- (bif (rp.any fun y=>y==1)then 0 else min e0 Y.l10)]):=by
  unfold Rq.row;simp only[mkR,List.length_cons,List.length_nil,List.range_succ,List.range_zero,List.nil_append,List.cons_append,List.map_cons,List.map_nil,ju _ rp 1 _ (by decide),Nat.zero_add];rfl
 have z:(mkR [e0] Y).cz 1=⟨[99,97,117,115,101,49],1,true,[(max 0 (min e0 Y.l10- Y.d1),min e0 Y.l10+Y.d1)]⟩:=rfl;rw[r,z,←g];cases N with
 |nil=>
  refine(zap be [e0] Y rz rb rp 1 (by decide) vs cs []).trans ?_;refine(zks be [e0] Y jy vs cs rz rb rp _ [] e0 (w7 rz rb rp hz hb _) rfl he0 hl0 hd).trans ?_;cases (false||decide (Y.n<(bif (rp.any fun y=>y==1)then 0 else min e0 Y.l10)))
  ·exact(znt be [e0] Y rz rb rp 1 (by decide) vs cs [] hvs hcs hN _ jo rfl (e0- (bif (rp.any fun y=>y==1)then 0 else min e0 Y.l10)) (max 0 (min e0 Y.l10- Y.d1)) (min e0 Y.l10+Y.d1) ((xd ho).trans (decide_eq_true (by omega)))).trans (by first|rfl|simp[wz])
  ·exact(yji be [e0] Y rz rb rp 1 (by decide) vs cs [] hvs hcs hN _ jo rfl (e0- (bif (rp.any fun y=>y==1)then 0 else min e0 Y.l10)) (max 0 (min e0 Y.l10- Y.d1)) (min e0 Y.l10+Y.d1) ((xd ho).trans (decide_eq_true (by omega)))).trans (by first|rfl|simp[wz])
 |cons a r=>
  refine(zao be [e0] Y rz rb rp 1 (by decide) vs cs (a::r)).trans ?_;refine(zkr be [e0] Y jy vs cs rz rb rp _ (a::r) e0 (w7 rz rb rp hz hb _) rfl he0 hl0 hd).trans ?_;cases (false||decide (Y.n<(bif (rp.any fun y=>y==1)then 0 else min e0 Y.l10)))
  ·exact(zns be [e0] Y rz rb rp 1 (by decide) vs cs (a::r) hvs hcs hN _ jo rfl (e0- (bif (rp.any fun y=>y==1)then 0 else min e0 Y.l10)) (max 0 (min e0 Y.l10- Y.d1)) (min e0 Y.l10+Y.d1) ((xd ho).trans (decide_eq_true (by omega)))).trans (by first|rfl|simp[wz])
  ·exact(yjh be [e0] Y rz rb rp 1 (by decide) vs cs (a::r) hvs hcs hN _ jo rfl (e0- (bif (rp.any fun y=>y==1)then 0 else min e0 Y.l10)) (max 0 (min e0 Y.l10- Y.d1)) (min e0 Y.l10+Y.d1) ((xd ho).trans (decide_eq_true (by omega)))).trans (by first|rfl|simp[wz])
theorem xdq(hl0:0≤Y.l20∧Y.l20≤65535)(hd:0≤Y.d2∧Y.d2≤255)(vs:List (Bool×List Int))(cs:List Cz)(N:List Int)(hvs:vs.length≤7)(hcs:cs.length≤7)(hN:N.length≤7):wz be [e0] Y rz rb rp 2 vs cs N=wz be [e0] Y rz rb rp 3 (vs++ [(mkR [e0] Y).row rp 2]) (cs++ [(mkR [e0] Y).cz 2]) (N++if jq (mkR [e0] Y) rp 2=true then [2]else []):=by
 have g:(false||decide (Y.n<(bif (rp.any fun y=>y==2)then 0 else min e0 Y.l20)))=jq (mkR [e0] Y) rp 2:=by
  unfold jq;simp only[mkR,List.length_cons,List.length_nil,List.range_succ,List.range_zero,List.nil_append,List.cons_append,List.any_cons,List.any_nil,ju _ rp 2 _ (by decide),Nat.zero_add,Bool.false_or,Bool.or_false,Bool.or_assoc];rfl
 have r:(mkR [e0] Y).row rp 2=(true,[e0- (bif (rp.any fun y=>y==2)then 0 else min e0 Y.l20)]):=by
  unfold Rq.row;simp only[mkR,List.length_cons,List.length_nil,List.range_succ,List.range_zero,List.nil_append,List.cons_append,List.map_cons,List.map_nil,ju _ rp 2 _ (by decide),Nat.zero_add];rfl
 have z:(mkR [e0] Y).cz 2=⟨[99,97,117,115,101,50],2,true,[(max 0 (min e0 Y.l20- Y.d2),min e0 Y.l20+Y.d2)]⟩:=rfl;rw[r,z,←g];cases N with
 |nil=>
  refine(zap be [e0] Y rz rb rp 2 (by decide) vs cs []).trans ?_;refine(zkq be [e0] Y jy vs cs rz rb rp _ [] e0 (w7 rz rb rp hz hb _) rfl he0 hl0 hd).trans ?_;cases (false||decide (Y.n<(bif (rp.any fun y=>y==2)then 0 else min e0 Y.l20)))
  ·exact(znt be [e0] Y rz rb rp 2 (by decide) vs cs [] hvs hcs hN _ je rfl (e0- (bif (rp.any fun y=>y==2)then 0 else min e0 Y.l20)) (max 0 (min e0 Y.l20- Y.d2)) (min e0 Y.l20+Y.d2) ((xd ho).trans (decide_eq_true (by omega)))).trans (by first|rfl|simp[wz])
  ·exact(yji be [e0] Y rz rb rp 2 (by decide) vs cs [] hvs hcs hN _ je rfl (e0- (bif (rp.any fun y=>y==2)then 0 else min e0 Y.l20)) (max 0 (min e0 Y.l20- Y.d2)) (min e0 Y.l20+Y.d2) ((xd ho).trans (decide_eq_true (by omega)))).trans (by first|rfl|simp[wz])
 |cons a r=>
  refine(zao be [e0] Y rz rb rp 2 (by decide) vs cs (a::r)).trans ?_;refine(zkp be [e0] Y jy vs cs rz rb rp _ (a::r) e0 (w7 rz rb rp hz hb _) rfl he0 hl0 hd).trans ?_;cases (false||decide (Y.n<(bif (rp.any fun y=>y==2)then 0 else min e0 Y.l20)))
  ·exact(zns be [e0] Y rz rb rp 2 (by decide) vs cs (a::r) hvs hcs hN _ je rfl (e0- (bif (rp.any fun y=>y==2)then 0 else min e0 Y.l20)) (max 0 (min e0 Y.l20- Y.d2)) (min e0 Y.l20+Y.d2) ((xd ho).trans (decide_eq_true (by omega)))).trans (by first|rfl|simp[wz])
  ·exact(yjh be [e0] Y rz rb rp 2 (by decide) vs cs (a::r) hvs hcs hN _ je rfl (e0- (bif (rp.any fun y=>y==2)then 0 else min e0 Y.l20)) (max 0 (min e0 Y.l20- Y.d2)) (min e0 Y.l20+Y.d2) ((xd ho).trans (decide_eq_true (by omega)))).trans (by first|rfl|simp[wz])
theorem zip(k:Nat)(hk:3≤k∧k<7)(u:UInt8)(hu:UInt8.ofNat (48+k)=u)(q1:(zu T).call 8 [.int .i64 (k:Int)] [] 0 []=some (.str [u],[],0,[]))(vs:List (Bool×List Int))(cs:List Cz)(N:List Int)(hvs:vs.length≤7)(hcs:cs.length≤7)(hN:N.length≤7):wz be [e0] Y rz rb rp k vs cs N=wz be [e0] Y rz rb rp (k+1) (vs++ [(mkR [e0] Y).row rp k]) (cs++if k<3+(mkR [e0] Y).o then [(mkR [e0] Y).cz k]else []) N:=by
 have r:(mkR [e0] Y).row rp k=(true,[e0- 0]):=by
  unfold Rq.row;simp only[mkR,List.length_cons,List.length_nil,List.range_succ,List.range_zero,List.nil_append,List.cons_append,List.map_cons,List.map_nil,ze2 _ rp k _ hk.1,Nat.zero_add];rfl
 have z:(mkR [e0] Y).cz k=⟨[99,97,117,115,101,u],(k:Int),true,[(Y.n+1,Y.n+50)]⟩:=by
  unfold Rq.cz;simp only[mkR,List.length_cons,List.length_nil,List.range_succ,List.range_zero,List.nil_append,List.cons_append,List.map_cons,List.map_nil,if_neg (show¬k<3 by omega),Nat.zero_add,hu]
 have hq:(k<3+(mkR [e0] Y).o)↔((k:Int)<3+Y.o %4):=by
  show(k<3+(Y.o %4).toNat)↔_;omega
 rw[r,z];cases N with
 |nil=>
  refine(zap be [e0] Y rz rb rp k (by omega) vs cs []).trans ?_;refine(zko be [e0] Y jy vs cs rz rb rp k _ [] e0 (w7 rz rb rp hz hb _) rfl he0 hn (by omega)).trans ?_;by_cases hc:(k:Int)<3+Y.o %4
  ·rw[if_pos (hq.2 hc)]
   exact znt be [e0] Y rz rb rp k (by omega) vs cs [] hvs hcs hN u q1 rfl (e0- 0) (Y.n+1) (Y.n+50) ((xd ho).trans (decide_eq_true hc))
  ·rw[if_neg (fun h=>hc (hq.1 h)),List.append_nil]
   exact yyu be [e0] Y rz rb rp k (by omega) vs cs [] hvs hcs hN u q1 rfl (e0- 0) (Y.n+1) (Y.n+50) ((xd ho).trans (decide_eq_false hc))
 |cons a r=>
  refine(zao be [e0] Y rz rb rp k (by omega) vs cs (a::r)).trans ?_;refine(zkn be [e0] Y jy vs cs rz rb rp k _ (a::r) e0 (w7 rz rb rp hz hb _) rfl he0 hn (by omega)).trans ?_;by_cases hc:(k:Int)<3+Y.o %4
  ·rw[if_pos (hq.2 hc)]
   exact zns be [e0] Y rz rb rp k (by omega) vs cs (a::r) hvs hcs hN u q1 rfl (e0- 0) (Y.n+1) (Y.n+50) ((xd ho).trans (decide_eq_true hc))
  ·rw[if_neg (fun h=>hc (hq.1 h)),List.append_nil]
   exact yyt be [e0] Y rz rb rp k (by omega) vs cs (a::r) hvs hcs hN u q1 rfl (e0- 0) (Y.n+1) (Y.n+50) ((xd ho).trans (decide_eq_false hc))
end Go.Den.FaT
namespace Go.Den.FaT
open Go Go.Proofs Go.Den
variable (be:Bool) (e0 e1:Int) (Y:Cx) (rz:Nat) (rb:Bool) (rp:List Int)
variable (hz:rp≠ []→rz=1) (hb:rp.length<1000000) (he0:0≤e0∧e0≤65535) (he1:0≤e1∧e1≤65535) (hn:0≤Y.n∧Y.n≤255) (ho:0≤Y.o∧Y.o≤255)
include hz hb he0 he1 hn ho
theorem xdp(hl0:0≤Y.l00∧Y.l00≤65535)(hl1:0≤Y.l01∧Y.l01≤65535)(hd:0≤Y.d0∧Y.d0≤255):zcc be [e0,e1] Y rz rb rp=wz be [e0,e1] Y rz rb rp 1 [(mkR [e0,e1] Y).row rp 0] [(mkR [e0,e1] Y).cz 0] (if jq (mkR [e0,e1] Y) rp 0=true then [0]else []):=by
 have g:((false||decide (Y.n<(bif (rp.any fun y=>y==0)then 0 else min e0 Y.l00)))||decide (Y.n<(bif (rp.any fun y=>y==0)then 0 else min e1 Y.l01)))=jq (mkR [e0,e1] Y) rp 0:=by
  unfold jq;simp only[mkR,List.length_cons,List.length_nil,List.range_succ,List.range_zero,List.nil_append,List.cons_append,List.any_cons,List.any_nil,ju _ rp 0 _ (by decide),Nat.zero_add,Bool.false_or,Bool.or_false,Bool.or_assoc];rfl
 have r:(mkR [e0,e1] Y).row rp 0=(true,[e0- (bif (rp.any fun y=>y==0)then 0 else min e0 Y.l00),e1- (bif (rp.any fun y=>y==0)then 0 else min e1 Y.l01)]):=by
  unfold Rq.row;simp only[mkR,List.length_cons,List.length_nil,List.range_succ,List.range_zero,List.nil_append,List.cons_append,List.map_cons,List.map_nil,ju _ rp 0 _ (by decide),Nat.zero_add];rfl
 have z:(mkR [e0,e1] Y).cz 0=⟨[99,97,117,115,101,48],0,true,[(max 0 (min e0 Y.l00- Y.d0),min e0 Y.l00+Y.d0),(max 0 (min e1 Y.l01- Y.d0),min e1 Y.l01+Y.d0)]⟩:=rfl;rw[r,z,←g];refine(so0 be [e0,e1] Y rz rb rp).trans ?_;refine(zkx be [e0,e1] Y jy rz rb rp _ [] e0 (w7 rz rb rp hz hb _) rfl he0 hl0 hd).trans ?_;refine(zpf be [e0,e1] Y jy rz rb rp _ [] e1 (e0- (bif (rp.any fun y=>y==0)then 0 else min e0 Y.l00)) (max 0 (min e0 Y.l00- Y.d0)) (min e0 Y.l00+Y.d0) (w7 rz rb rp hz hb _) rfl he1 hl1 hd).trans ?_;cases ((false||decide (Y.n<(bif (rp.any fun y=>y==0)then 0 else min e0 Y.l00)))||decide (Y.n<(bif (rp.any fun y=>y==0)then 0 else min e1 Y.l01)))
 ·exact yyy be [e0,e1] Y rz rb rp rfl (e0- (bif (rp.any fun y=>y==0)then 0 else min e0 Y.l00)) (max 0 (min e0 Y.l00- Y.d0)) (min e0 Y.l00+Y.d0) (e1- (bif (rp.any fun y=>y==0)then 0 else min e1 Y.l01)) (max 0 (min e1 Y.l01- Y.d0)) (min e1 Y.l01+Y.d0) ((xd ho).trans (decide_eq_true (by omega)))
 ·exact yyx be [e0,e1] Y rz rb rp rfl (e0- (bif (rp.any fun y=>y==0)then 0 else min e0 Y.l00)) (max 0 (min e0 Y.l00- Y.d0)) (min e0 Y.l00+Y.d0) (e1- (bif (rp.any fun y=>y==0)then 0 else min e1 Y.l01)) (max 0 (min e1 Y.l01- Y.d0)) (min e1 Y.l01+Y.d0) ((xd ho).trans (decide_eq_true (by omega)))
theorem xdo(hl0:0≤Y.l10∧Y.l10≤65535)(hl1:0≤Y.l11∧Y.l11≤65535)(hd:0≤Y.d1∧Y.d1≤255)(vs:List (Bool×List Int))(cs:List Cz)(N:List Int)(hvs:vs.length≤7)(hcs:cs.length≤7)(hN:N.length≤7):wz be [e0,e1] Y rz rb rp 1 vs cs N=wz be [e0,e1] Y rz rb rp 2 (vs++ [(mkR [e0,e1] Y).row rp 1]) (cs++ [(mkR [e0,e1] Y).cz 1]) (N++if jq (mkR [e0,e1] Y) rp 1=true then [1]else []):=by
 have g:((false||decide (Y.n<(bif (rp.any fun y=>y==1)then 0 else min e0 Y.l10)))||decide (Y.n<(bif (rp.any fun y=>y==1)then 0 else min e1 Y.l11)))=jq (mkR [e0,e1] Y) rp 1:=by
  unfold jq;simp only[mkR,List.length_cons,List.length_nil,List.range_succ,List.range_zero,List.nil_append,List.cons_append,List.any_cons,List.any_nil,ju _ rp 1 _ (by decide),Nat.zero_add,Bool.false_or,Bool.or_false,Bool.or_assoc];rfl
 have r:(mkR [e0,e1] Y).row rp 1=(true,[e0- (bif (rp.any fun y=>y==1)then 0 else min e0 Y.l10),e1- (bif (rp.any fun y=>y==1)then 0 else min e1 Y.l11)]):=by
  unfold Rq.row;simp only[mkR,List.length_cons,List.length_nil,List.range_succ,List.range_zero,List.nil_append,List.cons_append,List.map_cons,List.map_nil,ju _ rp 1 _ (by decide),Nat.zero_add];rfl
 have z:(mkR [e0,e1] Y).cz 1=⟨[99,97,117,115,101,49],1,true,[(max 0 (min e0 Y.l10- Y.d1),min e0 Y.l10+Y.d1),(max 0 (min e1 Y.l11- Y.d1),min e1 Y.l11+Y.d1)]⟩:=rfl;rw[r,z,←g];cases N with
 |nil=>
  refine(zap be [e0,e1] Y rz rb rp 1 (by decide) vs cs []).trans ?_;refine(zks be [e0,e1] Y jy vs cs rz rb rp _ [] e0 (w7 rz rb rp hz hb _) rfl he0 hl0 hd).trans ?_;refine(zpd be [e0,e1] Y jy vs cs rz rb rp _ [] e1 (e0- (bif (rp.any fun y=>y==1)then 0 else min e0 Y.l10)) (max 0 (min e0 Y.l10- Y.d1)) (min e0 Y.l10+Y.d1) (w7 rz rb rp hz hb _) rfl he1 hl1 hd).trans ?_;cases ((false||decide (Y.n<(bif (rp.any fun y=>y==1)then 0 else min e0 Y.l10)))||decide (Y.n<(bif (rp.any fun y=>y==1)then 0 else min e1 Y.l11)))
  ·exact(znr be [e0,e1] Y rz rb rp 1 (by decide) vs cs [] hvs hcs hN _ jo rfl (e0- (bif (rp.any fun y=>y==1)then 0 else min e0 Y.l10)) (max 0 (min e0 Y.l10- Y.d1)) (min e0 Y.l10+Y.d1) (e1- (bif (rp.any fun y=>y==1)then 0 else min e1 Y.l11)) (max 0 (min e1 Y.l11- Y.d1)) (min e1 Y.l11+Y.d1) ((xd ho).trans (decide_eq_true (by omega)))).trans (by first|rfl|simp[wz])
  ·exact(yjg be [e0,e1] Y rz rb rp 1 (by decide) vs cs [] hvs hcs hN _ jo rfl (e0- (bif (rp.any fun y=>y==1)then 0 else min e0 Y.l10)) (max 0 (min e0 Y.l10- Y.d1)) (min e0 Y.l10+Y.d1) (e1- (bif (rp.any fun y=>y==1)then 0 else min e1 Y.l11)) (max 0 (min e1 Y.l11- Y.d1)) (min e1 Y.l11+Y.d1) ((xd ho).trans (decide_eq_true (by omega)))).trans (by first|rfl|simp[wz])
 |cons a r=>
  refine(zao be [e0,e1] Y rz rb rp 1 (by decide) vs cs (a::r)).trans ?_;refine(zkr be [e0,e1] Y jy vs cs rz rb rp _ (a::r) e0 (w7 rz rb rp hz hb _) rfl he0 hl0 hd).trans ?_;refine(zpc be [e0,e1] Y jy vs cs rz rb rp _ (a::r) e1 (e0- (bif (rp.any fun y=>y==1)then 0 else min e0 Y.l10)) (max 0 (min e0 Y.l10- Y.d1)) (min e0 Y.l10+Y.d1) (w7 rz rb rp hz hb _) rfl he1 hl1 hd).trans ?_;cases ((false||decide (Y.n<(bif (rp.any fun y=>y==1)then 0 else min e0 Y.l10)))||decide (Y.n<(bif (rp.any fun y=>y==1)then 0 else min e1 Y.l11)))
  ·exact(znq be [e0,e1] Y rz rb rp 1 (by decide) vs cs (a::r) hvs hcs hN _ jo rfl (e0- (bif (rp.any fun y=>y==1)then 0 else min e0 Y.l10)) (max 0 (min e0 Y.l10- Y.d1)) (min e0 Y.l10+Y.d1) (e1- (bif (rp.any fun y=>y==1)then 0 else min e1 Y.l11)) (max 0 (min e1 Y.l11- Y.d1)) (min e1 Y.l11+Y.d1) ((xd ho).trans (decide_eq_true (by omega)))).trans (by first|rfl|simp[wz])
  ·exact(yjf be [e0,e1] Y rz rb rp 1 (by decide) vs cs (a::r) hvs hcs hN _ jo rfl (e0- (bif (rp.any fun y=>y==1)then 0 else min e0 Y.l10)) (max 0 (min e0 Y.l10- Y.d1)) (min e0 Y.l10+Y.d1) (e1- (bif (rp.any fun y=>y==1)then 0 else min e1 Y.l11)) (max 0 (min e1 Y.l11- Y.d1)) (min e1 Y.l11+Y.d1) ((xd ho).trans (decide_eq_true (by omega)))).trans (by first|rfl|simp[wz])
theorem xdn(hl0:0≤Y.l20∧Y.l20≤65535)(hl1:0≤Y.l21∧Y.l21≤65535)(hd:0≤Y.d2∧Y.d2≤255)(vs:List (Bool×List Int))(cs:List Cz)(N:List Int)(hvs:vs.length≤7)(hcs:cs.length≤7)(hN:N.length≤7):wz be [e0,e1] Y rz rb rp 2 vs cs N=wz be [e0,e1] Y rz rb rp 3 (vs++ [(mkR [e0,e1] Y).row rp 2]) (cs++ [(mkR [e0,e1] Y).cz 2]) (N++if jq (mkR [e0,e1] Y) rp 2=true then [2]else []):=by
 have g:((false||decide (Y.n<(bif (rp.any fun y=>y==2)then 0 else min e0 Y.l20)))||decide (Y.n<(bif (rp.any fun y=>y==2)then 0 else min e1 Y.l21)))=jq (mkR [e0,e1] Y) rp 2:=by
  unfold jq;simp only[mkR,List.length_cons,List.length_nil,List.range_succ,List.range_zero,List.nil_append,List.cons_append,List.any_cons,List.any_nil,ju _ rp 2 _ (by decide),Nat.zero_add,Bool.false_or,Bool.or_false,Bool.or_assoc];rfl
 have r:(mkR [e0,e1] Y).row rp 2=(true,[e0- (bif (rp.any fun y=>y==2)then 0 else min e0 Y.l20),e1- (bif (rp.any fun y=>y==2)then 0 else min e1 Y.l21)]):=by
  unfold Rq.row;simp only[mkR,List.length_cons,List.length_nil,List.range_succ,List.range_zero,List.nil_append,List.cons_append,List.map_cons,List.map_nil,ju _ rp 2 _ (by decide),Nat.zero_add];rfl
 have z:(mkR [e0,e1] Y).cz 2=⟨[99,97,117,115,101,50],2,true,[(max 0 (min e0 Y.l20- Y.d2),min e0 Y.l20+Y.d2),(max 0 (min e1 Y.l21- Y.d2),min e1 Y.l21+Y.d2)]⟩:=rfl;rw[r,z,←g];cases N with
 |nil=>
  refine(zap be [e0,e1] Y rz rb rp 2 (by decide) vs cs []).trans ?_;refine(zkq be [e0,e1] Y jy vs cs rz rb rp _ [] e0 (w7 rz rb rp hz hb _) rfl he0 hl0 hd).trans ?_;refine(zpb be [e0,e1] Y jy vs cs rz rb rp _ [] e1 (e0- (bif (rp.any fun y=>y==2)then 0 else min e0 Y.l20)) (max 0 (min e0 Y.l20- Y.d2)) (min e0 Y.l20+Y.d2) (w7 rz rb rp hz hb _) rfl he1 hl1 hd).trans ?_;cases ((false||decide (Y.n<(bif (rp.any fun y=>y==2)then 0 else min e0 Y.l20)))||decide (Y.n<(bif (rp.any fun y=>y==2)then 0 else min e1 Y.l21)))
  ·exact(znr be [e0,e1] Y rz rb rp 2 (by decide) vs cs [] hvs hcs hN _ je rfl (e0- (bif (rp.any fun y=>y==2)then 0 else min e0 Y.l20)) (max 0 (min e0 Y.l20- Y.d2)) (min e0 Y.l20+Y.d2) (e1- (bif (rp.any fun y=>y==2)then 0 else min e1 Y.l21)) (max 0 (min e1 Y.l21- Y.d2)) (min e1 Y.l21+Y.d2) ((xd ho).trans (decide_eq_true (by omega)))).trans (by first|rfl|simp[wz])
  ·exact(yjg be [e0,e1] Y rz rb rp 2 (by decide) vs cs [] hvs hcs hN _ je rfl (e0- (bif (rp.any fun y=>y==2)then 0 else min e0 Y.l20)) (max 0 (min e0 Y.l20- Y.d2)) (min e0 Y.l20+Y.d2) (e1- (bif (rp.any fun y=>y==2)then 0 else min e1 Y.l21)) (max 0 (min e1 Y.l21- Y.d2)) (min e1 Y.l21+Y.d2) ((xd ho).trans (decide_eq_true (by omega)))).trans (by first|rfl|simp[wz])
 |cons a r=>
  refine(zao be [e0,e1] Y rz rb rp 2 (by decide) vs cs (a::r)).trans ?_;refine(zkp be [e0,e1] Y jy vs cs rz rb rp _ (a::r) e0 (w7 rz rb rp hz hb _) rfl he0 hl0 hd).trans ?_;refine(zpa be [e0,e1] Y jy vs cs rz rb rp _ (a::r) e1 (e0- (bif (rp.any fun y=>y==2)then 0 else min e0 Y.l20)) (max 0 (min e0 Y.l20- Y.d2)) (min e0 Y.l20+Y.d2) (w7 rz rb rp hz hb _) rfl he1 hl1 hd).trans ?_;cases ((false||decide (Y.n<(bif (rp.any fun y=>y==2)then 0 else min e0 Y.l20)))||decide (Y.n<(bif (rp.any fun y=>y==2)then 0 else min e1 Y.l21)))
  ·exact(znq be [e0,e1] Y rz rb rp 2 (by decide) vs cs (a::r) hvs hcs hN _ je rfl (e0- (bif (rp.any fun y=>y==2)then 0 else min e0 Y.l20)) (max 0 (min e0 Y.l20- Y.d2)) (min e0 Y.l20+Y.d2) (e1- (bif (rp.any fun y=>y==2)then 0 else min e1 Y.l21)) (max 0 (min e1 Y.l21- Y.d2)) (min e1 Y.l21+Y.d2) ((xd ho).trans (decide_eq_true (by omega)))).trans (by first|rfl|simp[wz])
  ·exact(yjf be [e0,e1] Y rz rb rp 2 (by decide) vs cs (a::r) hvs hcs hN _ je rfl (e0- (bif (rp.any fun y=>y==2)then 0 else min e0 Y.l20)) (max 0 (min e0 Y.l20- Y.d2)) (min e0 Y.l20+Y.d2) (e1- (bif (rp.any fun y=>y==2)then 0 else min e1 Y.l21)) (max 0 (min e1 Y.l21- Y.d2)) (min e1 Y.l21+Y.d2) ((xd ho).trans (decide_eq_true (by omega)))).trans (by first|rfl|simp[wz])
theorem zio(k:Nat)(hk:3≤k∧k<7)(u:UInt8)(hu:UInt8.ofNat (48+k)=u)(q1:(zu T).call 8 [.int .i64 (k:Int)] [] 0 []=some (.str [u],[],0,[]))(vs:List (Bool×List Int))(cs:List Cz)(N:List Int)(hvs:vs.length≤7)(hcs:cs.length≤7)(hN:N.length≤7):wz be [e0,e1] Y rz rb rp k vs cs N=wz be [e0,e1] Y rz rb rp (k+1) (vs++ [(mkR [e0,e1] Y).row rp k]) (cs++if k<3+(mkR [e0,e1] Y).o then [(mkR [e0,e1] Y).cz k]else []) N:=by
 have r:(mkR [e0,e1] Y).row rp k=(true,[e0- 0,e1- 0]):=by
  unfold Rq.row;simp only[mkR,List.length_cons,List.length_nil,List.range_succ,List.range_zero,List.nil_append,List.cons_append,List.map_cons,List.map_nil,ze2 _ rp k _ hk.1,Nat.zero_add];rfl
 have z:(mkR [e0,e1] Y).cz k=⟨[99,97,117,115,101,u],(k:Int),true,[(Y.n+1,Y.n+50),(Y.n+1,Y.n+50)]⟩:=by
  unfold Rq.cz;simp only[mkR,List.length_cons,List.length_nil,List.range_succ,List.range_zero,List.nil_append,List.cons_append,List.map_cons,List.map_nil,if_neg (show¬k<3 by omega),Nat.zero_add,hu]
 have hq:(k<3+(mkR [e0,e1] Y).o)↔((k:Int)<3+Y.o %4):=by
  show(k<3+(Y.o %4).toNat)↔_;omega
 rw[r,z];cases N with
 |nil=>
  refine(zap be [e0,e1] Y rz rb rp k (by omega) vs cs []).trans ?_;refine(zko be [e0,e1] Y jy vs cs rz rb rp k _ [] e0 (w7 rz rb rp hz hb _) rfl he0 hn (by omega)).trans ?_;refine(zo9 be [e0,e1] Y jy vs cs rz rb rp k _ [] e1 (e0- 0) (Y.n+1) (Y.n+50) (w7 rz rb rp hz hb _) rfl he1 hn (by omega)).trans ?_;by_cases hc:(k:Int)<3+Y.o %4
  ·rw[if_pos (hq.2 hc)]
   exact znr be [e0,e1] Y rz rb rp k (by omega) vs cs [] hvs hcs hN u q1 rfl (e0- 0) (Y.n+1) (Y.n+50) (e1- 0) (Y.n+1) (Y.n+50) ((xd ho).trans (decide_eq_true hc))
  ·rw[if_neg (fun h=>hc (hq.1 h)),List.append_nil]
   exact yys be [e0,e1] Y rz rb rp k (by omega) vs cs [] hvs hcs hN u q1 rfl (e0- 0) (Y.n+1) (Y.n+50) (e1- 0) (Y.n+1) (Y.n+50) ((xd ho).trans (decide_eq_false hc))
 |cons a r=>
  refine(zao be [e0,e1] Y rz rb rp k (by omega) vs cs (a::r)).trans ?_;refine(zkn be [e0,e1] Y jy vs cs rz rb rp k _ (a::r) e0 (w7 rz rb rp hz hb _) rfl he0 hn (by omega)).trans ?_;refine(zo8 be [e0,e1] Y jy vs cs rz rb rp k _ (a::r) e1 (e0- 0) (Y.n+1) (Y.n+50) (w7 rz rb rp hz hb _) rfl he1 hn (by omega)).trans ?_;by_cases hc:(k:Int)<3+Y.o %4
  ·rw[if_pos (hq.2 hc)]
   exact znq be [e0,e1] Y rz rb rp k (by omega) vs cs (a::r) hvs hcs hN u q1 rfl (e0- 0) (Y.n+1) (Y.n+50) (e1- 0) (Y.n+1) (Y.n+50) ((xd ho).trans (decide_eq_true hc))
  ·rw[if_neg (fun h=>hc (hq.1 h)),List.append_nil]
   exact yyr be [e0,e1] Y rz rb rp k (by omega) vs cs (a::r) hvs hcs hN u q1 rfl (e0- 0) (Y.n+1) (Y.n+50) (e1- 0) (Y.n+1) (Y.n+50) ((xd ho).trans (decide_eq_false hc))
end Go.Den.FaT
namespace Go.Den.FaT
open Go Go.Proofs Go.Den
variable (be:Bool) (e0 e1 e2:Int) (Y:Cx) (rz:Nat) (rb:Bool) (rp:List Int)
variable (hz:rp≠ []→rz=1) (hb:rp.length<1000000) (he0:0≤e0∧e0≤65535) (he1:0≤e1∧e1≤65535) (he2:0≤e2∧e2≤65535) (hn:0≤Y.n∧Y.n≤255) (ho:0≤Y.o∧Y.o≤255)
include hz hb he0 he1 he2 hn ho
theorem xdm(hl0:0≤Y.l00∧Y.l00≤65535)(hl1:0≤Y.l01∧Y.l01≤65535)(hl2:0≤Y.l02∧Y.l02≤65535)(hd:0≤Y.d0∧Y.d0≤255):zcc be [e0,e1,e2] Y rz rb rp=wz be [e0,e1,e2] Y rz rb rp 1 [(mkR [e0,e1,e2] Y).row rp 0] [(mkR [e0,e1,e2] Y).cz 0] (if jq (mkR [e0,e1,e2] Y) rp 0=true then [0]else []):=by
 have g:(((false||decide (Y.n<(bif (rp.any fun y=>y==0)then 0 else min e0 Y.l00)))||decide (Y.n<(bif (rp.any fun y=>y==0)then 0 else min e1 Y.l01)))||decide (Y.n<(bif (rp.any fun y=>y==0)then 0 else min e2 Y.l02)))=jq (mkR [e0,e1,e2] Y) rp 0:=by
  unfold jq;simp only[mkR,List.length_cons,List.length_nil,List.range_succ,List.range_zero,List.nil_append,List.cons_append,List.any_cons,List.any_nil,ju _ rp 0 _ (by decide),Nat.zero_add,Bool.false_or,Bool.or_false,Bool.or_assoc];rfl
 have r:(mkR [e0,e1,e2] Y).row rp 0=(true,[e0- (bif (rp.any fun y=>y==0)then 0 else min e0 Y.l00),e1- (bif (rp.any fun y=>y==0)then 0 else min e1 Y.l01),e2- (bif (rp.any fun y=>y==0)then 0 else min e2 Y.l02)]):=by
  unfold Rq.row;simp only[mkR,List.length_cons,List.length_nil,List.range_succ,List.range_zero,List.nil_append,List.cons_append,List.map_cons,List.map_nil,ju _ rp 0 _ (by decide),Nat.zero_add];rfl
 have z:(mkR [e0,e1,e2] Y).cz 0=⟨[99,97,117,115,101,48],0,true,[(max 0 (min e0 Y.l00- Y.d0),min e0 Y.l00+Y.d0),(max 0 (min e1 Y.l01- Y.d0),min e1 Y.l01+Y.d0),(max 0 (min e2 Y.l02- Y.d0),min e2 Y.l02+Y.d0)]⟩:=rfl;rw[r,z,←g];refine(so0 be [e0,e1,e2] Y rz rb rp).trans ?_;refine(zkx be [e0,e1,e2] Y jy rz rb rp _ [] e0 (w7 rz rb rp hz hb _) rfl he0 hl0 hd).trans ?_;refine(zpf be [e0,e1,e2] Y jy rz rb rp _ [] e1 (e0- (bif (rp.any fun y=>y==0)then 0 else min e0 Y.l00)) (max 0 (min e0 Y.l00- Y.d0)) (min e0 Y.l00+Y.d0) (w7 rz rb rp hz hb _) rfl he1 hl1 hd).trans ?_;refine(yoh be [e0,e1,e2] Y jy rz rb rp _ [] e2 (e0- (bif (rp.any fun y=>y==0)then 0 else min e0 Y.l00)) (max 0 (min e0 Y.l00- Y.d0)) (min e0 Y.l00+Y.d0) (e1- (bif (rp.any fun y=>y==0)then 0 else min e1 Y.l01)) (max 0 (min e1 Y.l01- Y.d0)) (min e1 Y.l01+Y.d0) (w7 rz rb rp hz hb _) rfl he2 hl2 hd).trans ?_;cases (((false||decide (Y.n<(bif (rp.any fun y=>y==0)then 0 else min e0 Y.l00)))||decide (Y.n<(bif (rp.any fun y=>y==0)then 0 else min e1 Y.l01)))||decide (Y.n<(bif (rp.any fun y=>y==0)then 0 else min e2 Y.l02)))
 ·exact yyw be [e0,e1,e2] Y rz rb rp rfl (e0- (bif (rp.any fun y=>y==0)then 0 else min e0 Y.l00)) (max 0 (min e0 Y.l00- Y.d0)) (min e0 Y.l00+Y.d0) (e1- (bif (rp.any fun y=>y==0)then 0 else min e1 Y.l01)) (max 0 (min e1 Y.l01- Y.d0)) (min e1 Y.l01+Y.d0) (e2- (bif (rp.any fun y=>y==0)then 0 else min e2 Y.l02)) (max 0 (min e2 Y.l02- Y.d0)) (min e2 Y.l02+Y.d0) ((xd ho).trans (decide_eq_true (by omega)))
 ·exact yyv be [e0,e1,e2] Y rz rb rp rfl (e0- (bif (rp.any fun y=>y==0)then 0 else min e0 Y.l00)) (max 0 (min e0 Y.l00- Y.d0)) (min e0 Y.l00+Y.d0) (e1- (bif (rp.any fun y=>y==0)then 0 else min e1 Y.l01)) (max 0 (min e1 Y.l01- Y.d0)) (min e1 Y.l01+Y.d0) (e2- (bif (rp.any fun y=>y==0)then 0 else min e2 Y.l02)) (max 0 (min e2 Y.l02- Y.d0)) (min e2 Y.l02+Y.d0) ((xd ho).trans (decide_eq_true (by omega)))
theorem xdl(hl0:0≤Y.l10∧Y.l10≤65535)(hl1:0≤Y.l11∧Y.l11≤65535)(hl2:0≤Y.l12∧Y.l12≤65535)(hd:0≤Y.d1∧Y.d1≤255)(vs:List (Bool×List Int))(cs:List Cz)(N:List Int)(hvs:vs.length≤7)(hcs:cs.length≤7)(hN:N.length≤7):wz be [e0,e1,e2] Y rz rb rp 1 vs cs N=wz be [e0,e1,e2] Y rz rb rp 2 (vs++ [(mkR [e0,e1,e2] Y).row rp 1]) (cs++ [(mkR [e0,e1,e2] Y).cz 1]) (N++if jq (mkR [e0,e1,e2] Y) rp 1=true then [1]else []):=by
 have g:(((false||decide (Y.n<(bif (rp.any fun y=>y==1)then 0 else min e0 Y.l10)))||decide (Y.n<(bif (rp.any fun y=>y==1)then 0 else min e1 Y.l11)))||decide (Y.n<(bif (rp.any fun y=>y==1)then 0 else min e2 Y.l12)))=jq (mkR [e0,e1,e2] Y) rp 1:=by
  unfold jq;simp only[mkR,List.length_cons,List.length_nil,List.range_succ,List.range_zero,List.nil_append,List.cons_append,List.any_cons,List.any_nil,ju _ rp 1 _ (by decide),Nat.zero_add,Bool.false_or,Bool.or_false,Bool.or_assoc];rfl
 have r:(mkR [e0,e1,e2] Y).row rp 1=(true,[e0- (bif (rp.any fun y=>y==1)then 0 else min e0 Y.l10),e1- (bif (rp.any fun y=>y==1)then 0 else min e1 Y.l11),e2- (bif (rp.any fun y=>y==1)then 0 else min e2 Y.l12)]):=by
  unfold Rq.row;simp only[mkR,List.length_cons,List.length_nil,List.range_succ,List.range_zero,List.nil_append,List.cons_append,List.map_cons,List.map_nil,ju _ rp 1 _ (by decide),Nat.zero_add];rfl
 have z:(mkR [e0,e1,e2] Y).cz 1=⟨[99,97,117,115,101,49],1,true,[(max 0 (min e0 Y.l10- Y.d1),min e0 Y.l10+Y.d1),(max 0 (min e1 Y.l11- Y.d1),min e1 Y.l11+Y.d1),(max 0 (min e2 Y.l12- Y.d1),min e2 Y.l12+Y.d1)]⟩:=rfl;rw[r,z,←g];cases N with
 |nil=>
  refine(zap be [e0,e1,e2] Y rz rb rp 1 (by decide) vs cs []).trans ?_;refine(zks be [e0,e1,e2] Y jy vs cs rz rb rp _ [] e0 (w7 rz rb rp hz hb _) rfl he0 hl0 hd).trans ?_;refine(zpd be [e0,e1,e2] Y jy vs cs rz rb rp _ [] e1 (e0- (bif (rp.any fun y=>y==1)then 0 else min e0 Y.l10)) (max 0 (min e0 Y.l10- Y.d1)) (min e0 Y.l10+Y.d1) (w7 rz rb rp hz hb _) rfl he1 hl1 hd).trans ?_;refine(ynu be [e0,e1,e2] Y jy vs cs rz rb rp _ [] e2 (e0- (bif (rp.any fun y=>y==1)then 0 else min e0 Y.l10)) (max 0 (min e0 Y.l10- Y.d1)) (min e0 Y.l10+Y.d1) (e1- (bif (rp.any fun y=>y==1)then 0 else min e1 Y.l11)) (max 0 (min e1 Y.l11- Y.d1)) (min e1 Y.l11+Y.d1) (w7 rz rb rp hz hb _) rfl he2 hl2 hd).trans ?_;cases (((false||decide (Y.n<(bif (rp.any fun y=>y==1)then 0 else min e0 Y.l10)))||decide (Y.n<(bif (rp.any fun y=>y==1)then 0 else min e1 Y.l11)))||decide (Y.n<(bif (rp.any fun y=>y==1)then 0 else min e2 Y.l12)))
  ·exact(znp be [e0,e1,e2] Y rz rb rp 1 (by decide) vs cs [] hvs hcs hN _ jo rfl (e0- (bif (rp.any fun y=>y==1)then 0 else min e0 Y.l10)) (max 0 (min e0 Y.l10- Y.d1)) (min e0 Y.l10+Y.d1) (e1- (bif (rp.any fun y=>y==1)then 0 else min e1 Y.l11)) (max 0 (min e1 Y.l11- Y.d1)) (min e1 Y.l11+Y.d1) (e2- (bif (rp.any fun y=>y==1)then 0 else min e2 Y.l12)) (max 0 (min e2 Y.l12- Y.d1)) (min e2 Y.l12+Y.d1) ((xd ho).trans (decide_eq_true (by omega)))).trans (by first|rfl|simp[wz])
  ·exact(yje be [e0,e1,e2] Y rz rb rp 1 (by decide) vs cs [] hvs hcs hN _ jo rfl (e0- (bif (rp.any fun y=>y==1)then 0 else min e0 Y.l10)) (max 0 (min e0 Y.l10- Y.d1)) (min e0 Y.l10+Y.d1) (e1- (bif (rp.any fun y=>y==1)then 0 else min e1 Y.l11)) (max 0 (min e1 Y.l11- Y.d1)) (min e1 Y.l11+Y.d1) (e2- (bif (rp.any fun y=>y==1)then 0 else min e2 Y.l12)) (max 0 (min e2 Y.l12- Y.d1)) (min e2 Y.l12+Y.d1) ((xd ho).trans (decide_eq_true (by omega)))).trans (by first|rfl|simp[wz])
 |cons a r=>
  refine(zao be [e0,e1,e2] Y rz rb rp 1 (by decide) vs cs (a::r)).trans ?_;refine(zkr be [e0,e1,e2] Y jy vs cs rz rb rp _ (a::r) e0 (w7 rz rb rp hz hb _) rfl he0 hl0 hd).trans ?_;refine(zpc be [e0,e1,e2] Y jy vs cs rz rb rp _ (a::r) e1 (e0- (bif (rp.any fun y=>y==1)then 0 else min e0 Y.l10)) (max 0 (min e0 Y.l10- Y.d1)) (min e0 Y.l10+Y.d1) (w7 rz rb rp hz hb _) rfl he1 hl1 hd).trans ?_;refine(ynt be [e0,e1,e2] Y jy vs cs rz rb rp _ (a::r) e2 (e0- (bif (rp.any fun y=>y==1)then 0 else min e0 Y.l10)) (max 0 (min e0 Y.l10- Y.d1)) (min e0 Y.l10+Y.d1) (e1- (bif (rp.any fun y=>y==1)then 0 else min e1 Y.l11)) (max 0 (min e1 Y.l11- Y.d1)) (min e1 Y.l11+Y.d1) (w7 rz rb rp hz hb _) rfl he2 hl2 hd).trans ?_;cases (((false||decide (Y.n<(bif (rp.any fun y=>y==1)then 0 else min e0 Y.l10)))||decide (Y.n<(bif (rp.any fun y=>y==1)then 0 else min e1 Y.l11)))||decide (Y.n<(bif (rp.any fun y=>y==1)then 0 else min e2 Y.l12)))
  ·exact(zno be [e0,e1,e2] Y rz rb rp 1 (by decide) vs cs (a::r) hvs hcs hN _ jo rfl (e0- (bif (rp.any fun y=>y==1)then 0 else min e0 Y.l10)) (max 0 (min e0 Y.l10- Y.d1)) (min e0 Y.l10+Y.d1) (e1- (bif (rp.any fun y=>y==1)then 0 else min e1 Y.l11)) (max 0 (min e1 Y.l11- Y.d1)) (min e1 Y.l11+Y.d1) (e2- (bif (rp.any fun y=>y==1)then 0 else min e2 Y.l12)) (max 0 (min e2 Y.l12- Y.d1)) (min e2 Y.l12+Y.d1) ((xd ho).trans (decide_eq_true (by omega)))).trans (by first|rfl|simp[wz])
  ·exact(yjd be [e0,e1,e2] Y rz rb rp 1 (by decide) vs cs (a::r) hvs hcs hN _ jo rfl (e0- (bif (rp.any fun y=>y==1)then 0 else min e0 Y.l10)) (max 0 (min e0 Y.l10- Y.d1)) (min e0 Y.l10+Y.d1) (e1- (bif (rp.any fun y=>y==1)then 0 else min e1 Y.l11)) (max 0 (min e1 Y.l11- Y.d1)) (min e1 Y.l11+Y.d1) (e2- (bif (rp.any fun y=>y==1)then 0 else min e2 Y.l12)) (max 0 (min e2 Y.l12- Y.d1)) (min e2 Y.l12+Y.d1) ((xd ho).trans (decide_eq_true (by omega)))).trans (by first|rfl|simp[wz])
theorem xdk(hl0:0≤Y.l20∧Y.l20≤65535)(hl1:0≤Y.l21∧Y.l21≤65535)(hl2:0≤Y.l22∧Y.l22≤65535)(hd:0≤Y.d2∧Y.d2≤255)(vs:List (Bool×List Int))(cs:List Cz)(N:List Int)(hvs:vs.length≤7)(hcs:cs.length≤7)(hN:N.length≤7):wz be [e0,e1,e2] Y rz rb rp 2 vs cs N=wz be [e0,e1,e2] Y rz rb rp 3 (vs++ [(mkR [e0,e1,e2] Y).row rp 2]) (cs++ [(mkR [e0,e1,e2] Y).cz 2]) (N++if jq (mkR [e0,e1,e2] Y) rp 2=true then [2]else []):=by
 have g:(((false||decide (Y.n<(bif (rp.any fun y=>y==2)then 0 else min e0 Y.l20)))||decide (Y.n<(bif (rp.any fun y=>y==2)then 0 else min e1 Y.l21)))||decide (Y.n<(bif (rp.any fun y=>y==2)then 0 else min e2 Y.l22)))=jq (mkR [e0,e1,e2] Y) rp 2:=by
  unfold jq;simp only[mkR,List.length_cons,List.length_nil,List.range_succ,List.range_zero,List.nil_append,List.cons_append,List.any_cons,List.any_nil,ju _ rp 2 _ (by decide),Nat.zero_add,Bool.false_or,Bool.or_false,Bool.or_assoc];rfl
 have r:(mkR [e0,e1,e2] Y).row rp 2=(true,[e0- (bif (rp.any fun y=>y==2)then 0 else min e0 Y.l20),e1- (bif (rp.any fun y=>y==2)then 0 else min e1 Y.l21),e2- (bif (rp.any fun y=>y==2)then 0 else min e2 Y.l22)]):=by
  unfold Rq.row;simp only[mkR,List.length_cons,List.length_nil,List.range_succ,List.range_zero,List.nil_append,List.cons_append,List.map_cons,List.map_nil,ju _ rp 2 _ (by decide),Nat.zero_add];rfl
 have z:(mkR [e0,e1,e2] Y).cz 2=⟨[99,97,117,115,101,50],2,true,[(max 0 (min e0 Y.l20- Y.d2),min e0 Y.l20+Y.d2),(max 0 (min e1 Y.l21- Y.d2),min e1 Y.l21+Y.d2),(max 0 (min e2 Y.l22- Y.d2),min e2 Y.l22+Y.d2)]⟩:=rfl;rw[r,z,←g];cases N with
 |nil=>
  refine(zap be [e0,e1,e2] Y rz rb rp 2 (by decide) vs cs []).trans ?_;refine(zkq be [e0,e1,e2] Y jy vs cs rz rb rp _ [] e0 (w7 rz rb rp hz hb _) rfl he0 hl0 hd).trans ?_;refine(zpb be [e0,e1,e2] Y jy vs cs rz rb rp _ [] e1 (e0- (bif (rp.any fun y=>y==2)then 0 else min e0 Y.l20)) (max 0 (min e0 Y.l20- Y.d2)) (min e0 Y.l20+Y.d2) (w7 rz rb rp hz hb _) rfl he1 hl1 hd).trans ?_;refine(yns be [e0,e1,e2] Y jy vs cs rz rb rp _ [] e2 (e0- (bif (rp.any fun y=>y==2)then 0 else min e0 Y.l20)) (max 0 (min e0 Y.l20- Y.d2)) (min e0 Y.l20+Y.d2) (e1- (bif (rp.any fun y=>y==2)then 0 else min e1 Y.l21)) (max 0 (min e1 Y.l21- Y.d2)) (min e1 Y.l21+Y.d2) (w7 rz rb rp hz hb _) rfl he2 hl2 hd).trans ?_;cases (((false||decide (Y.n<(bif (rp.any fun y=>y==2)then 0 else min e0 Y.l20)))||decide (Y.n<(bif (rp.any fun y=>y==2)then 0 else min e1 Y.l21)))||decide (Y.n<(bif (rp.any fun y=>y==2)then 0 else min e2 Y.l22)))
  ·exact(znp be [e0,e1,e2] Y rz rb rp 2 (by decide) vs cs [] hvs hcs hN _ je rfl (e0- (bif (rp.any fun y=>y==2)then 0 else min e0 Y.l20)) (max 0 (min e0 Y.l20- Y.d2)) (min e0 Y.l20+Y.d2) (e1- (bif (rp.any fun y=>y==2)then 0 else min e1 Y.l21)) (max 0 (min e1 Y.l21- Y.d2)) (min e1 Y.l21+Y.d2) (e2- (bif (rp.any fun y=>y==2)then 0 else min e2 Y.l22)) (max 0 (min e2 Y.l22- Y.d2)) (min e2 Y.l22+Y.d2) ((xd ho).trans (decide_eq_true (by omega)))).trans (by first|rfl|simp[wz])
  ·exact(yje be [e0,e1,e2] Y rz rb rp 2 (by decide) vs cs [] hvs hcs hN _ je rfl (e0- (bif (rp.any fun y=>y==2)then 0 else min e0 Y.l20)) (max 0 (min e0 Y.l20- Y.d2)) (min e0 Y.l20+Y.d2) (e1- (bif (rp.any fun y=>y==2)then 0 else min e1 Y.l21)) (max 0 (min e1 Y.l21- Y.d2)) (min e1 Y.l21+Y.d2) (e2- (bif (rp.any fun y=>y==2)then 0 else min e2 Y.l22)) (max 0 (min e2 Y.l22- Y.d2)) (min e2 Y.l22+Y.d2) ((xd ho).trans (decide_eq_true (by omega)))).trans (by first|rfl|simp[wz])
 |cons a r=>
  refine(zao be [e0,e1,e2] Y rz rb rp 2 (by decide) vs cs (a::r)).trans ?_;refine(zkp be [e0,e1,e2] Y jy vs cs rz rb rp _ (a::r) e0 (w7 rz rb rp hz hb _) rfl he0 hl0 hd).trans ?_;refine(zpa be [e0,e1,e2] Y jy vs cs rz rb rp _ (a::r) e1 (e0- (bif (rp.any fun y=>y==2)then 0 else min e0 Y.l20)) (max 0 (min e0 Y.l20- Y.d2)) (min e0 Y.l20+Y.d2) (w7 rz rb rp hz hb _) rfl he1 hl1 hd).trans ?_;refine(ynr be [e0,e1,e2] Y jy vs cs rz rb rp _ (a::r) e2 (e0- (bif (rp.any fun y=>y==2)then 0 else min e0 Y.l20)) (max 0 (min e0 Y.l20- Y.d2)) (min e0 Y.l20+Y.d2) (e1- (bif (rp.any fun y=>y==2)then 0 else min e1 Y.l21)) (max 0 (min e1 Y.l21- Y.d2)) (min e1 Y.l21+Y.d2) (w7 rz rb rp hz hb _) rfl he2 hl2 hd).trans ?_;cases (((false||decide (Y.n<(bif (rp.any fun y=>y==2)then 0 else min e0 Y.l20)))||decide (Y.n<(bif (rp.any fun y=>y==2)then 0 else min e1 Y.l21)))||decide (Y.n<(bif (rp.any fun y=>y==2)then 0 else min e2 Y.l22)))
  ·exact(zno be [e0,e1,e2] Y rz rb rp 2 (by decide) vs cs (a::r) hvs hcs hN _ je rfl (e0- (bif (rp.any fun y=>y==2)then 0 else min e0 Y.l20)) (max 0 (min e0 Y.l20- Y.d2)) (min e0 Y.l20+Y.d2) (e1- (bif (rp.any fun y=>y==2)then 0 else min e1 Y.l21)) (max 0 (min e1 Y.l21- Y.d2)) (min e1 Y.l21+Y.d2) (e2- (bif (rp.any fun y=>y==2)then 0 else min e2 Y.l22)) (max 0 (min e2 Y.l22- Y.d2)) (min e2 Y.l22+Y.d2) ((xd ho).trans (decide_eq_true (by omega)))).trans (by first|rfl|simp[wz])
  ·exact(yjd be [e0,e1,e2] Y rz rb rp 2 (by decide) vs cs (a::r) hvs hcs hN _ je rfl (e0- (bif (rp.any fun y=>y==2)then 0 else min e0 Y.l20)) (max 0 (min e0 Y.l20- Y.d2)) (min e0 Y.l20+Y.d2) (e1- (bif (rp.any fun y=>y==2)then 0 else min e1 Y.l21)) (max 0 (min e1 Y.l21- Y.d2)) (min e1 Y.l21+Y.d2) (e2- (bif (rp.any fun y=>y==2)then 0 else min e2 Y.l22)) (max 0 (min e2 Y.l22- Y.d2)) (min e2 Y.l22+Y.d2) ((xd ho).trans (decide_eq_true (by omega)))).trans (by first|rfl|simp[wz])
theorem zin(k:Nat)(hk:3≤k∧k<7)(u:UInt8)(hu:UInt8.ofNat (48+k)=u)(q1:(zu T).call 8 [.int .i64 (k:Int)] [] 0 []=some (.str [u],[],0,[]))(vs:List (Bool×List Int))(cs:List Cz)(N:List Int)(hvs:vs.length≤7)(hcs:cs.length≤7)(hN:N.length≤7):wz be [e0,e1,e2] Y rz rb rp k vs cs N=wz be [e0,e1,e2] Y rz rb rp (k+1) (vs++ [(mkR [e0,e1,e2] Y).row rp k]) (cs++if k<3+(mkR [e0,e1,e2] Y).o then [(mkR [e0,e1,e2] Y).cz k]else []) N:=by
 have r:(mkR [e0,e1,e2] Y).row rp k=(true,[e0- 0,e1- 0,e2- 0]):=by
  unfold Rq.row;simp only[mkR,List.length_cons,List.length_nil,List.range_succ,List.range_zero,List.nil_append,List.cons_append,List.map_cons,List.map_nil,ze2 _ rp k _ hk.1,Nat.zero_add];rfl
 have z:(mkR [e0,e1,e2] Y).cz k=⟨[99,97,117,115,101,u],(k:Int),true,[(Y.n+1,Y.n+50),(Y.n+1,Y.n+50),(Y.n+1,Y.n+50)]⟩:=by
  unfold Rq.cz;simp only[mkR,List.length_cons,List.length_nil,List.range_succ,List.range_zero,List.nil_append,List.cons_append,List.map_cons,List.map_nil,if_neg (show¬k<3 by omega),Nat.zero_add,hu]
 have hq:(k<3+(mkR [e0,e1,e2] Y).o)↔((k:Int)<3+Y.o %4):=by
  show(k<3+(Y.o %4).toNat)↔_;omega
 rw[r,z];cases N with
 |nil=>
  refine(zap be [e0,e1,e2] Y rz rb rp k (by omega) vs cs []).trans ?_;refine(zko be [e0,e1,e2] Y jy vs cs rz rb rp k _ [] e0 (w7 rz rb rp hz hb _) rfl he0 hn (by omega)).trans ?_;refine(zo9 be [e0,e1,e2] Y jy vs cs rz rb rp k _ [] e1 (e0- 0) (Y.n+1) (Y.n+50) (w7 rz rb rp hz hb _) rfl he1 hn (by omega)).trans ?_;refine(ynq be [e0,e1,e2] Y jy vs cs rz rb rp k _ [] e2 (e0- 0) (Y.n+1) (Y.n+50) (e1- 0) (Y.n+1) (Y.n+50) (w7 rz rb rp hz hb _) rfl he2 hn (by omega)).trans ?_;by_cases hc:(k:Int)<3+Y.o %4
  ·rw[if_pos (hq.2 hc)]
   exact znp be [e0,e1,e2] Y rz rb rp k (by omega) vs cs [] hvs hcs hN u q1 rfl (e0- 0) (Y.n+1) (Y.n+50) (e1- 0) (Y.n+1) (Y.n+50) (e2- 0) (Y.n+1) (Y.n+50) ((xd ho).trans (decide_eq_true hc))
  ·rw[if_neg (fun h=>hc (hq.1 h)),List.append_nil]
   exact yyq be [e0,e1,e2] Y rz rb rp k (by omega) vs cs [] hvs hcs hN u q1 rfl (e0- 0) (Y.n+1) (Y.n+50) (e1- 0) (Y.n+1) (Y.n+50) (e2- 0) (Y.n+1) (Y.n+50) ((xd ho).trans (decide_eq_false hc))
 |cons a r=>
  refine(zao be [e0,e1,e2] Y rz rb rp k (by omega) vs cs (a::r)).trans ?_;refine(zkn be [e0,e1,e2] Y jy vs cs rz rb rp k _ (a::r) e0 (w7 rz rb rp hz hb _) rfl he0 hn (by omega)).trans ?_;refine(zo8 be [e0,e1,e2] Y jy vs cs rz rb rp k _ (a::r) e1 (e0- 0) (Y.n+1) (Y.n+50) (w7 rz rb rp hz hb _) rfl he1 hn (by omega)).trans ?_;refine(ynp be [e0,e1,e2] Y jy vs cs rz rb rp k _ (a::r) e2 (e0- 0) (Y.n+1) (Y.n+50) (e1- 0) (Y.n+1) (Y.n+50) (w7 rz rb rp hz hb _) rfl he2 hn (by omega)).trans ?_;by_cases hc:(k:Int)<3+Y.o %4
  ·rw[if_pos (hq.2 hc)]
   exact zno be [e0,e1,e2] Y rz rb rp k (by omega) vs cs (a::r) hvs hcs hN u q1 rfl (e0- 0) (Y.n+1) (Y.n+50) (e1- 0) (Y.n+1) (Y.n+50) (e2- 0) (Y.n+1) (Y.n+50) ((xd ho).trans (decide_eq_true hc))
  ·rw[if_neg (fun h=>hc (hq.1 h)),List.append_nil]
   exact yyp be [e0,e1,e2] Y rz rb rp k (by omega) vs cs (a::r) hvs hcs hN u q1 rfl (e0- 0) (Y.n+1) (Y.n+50) (e1- 0) (Y.n+1) (Y.n+50) (e2- 0) (Y.n+1) (Y.n+50) ((xd ho).trans (decide_eq_false hc))
end Go.Den.FaT
namespace Go.Den.FaT
open Go Go.Proofs Go.Den
theorem ja{α:Type}{p:Prop} [Decidable p]{l:List α}{a:α}{z:Nat}(h:l.length≤z):(l++if p then [a]else []).length≤z+1:=by
 rw[List.length_append];split<;>simp<;>omega
theorem znx(x:Rq)(ho:x.o≤3):(((((([x.cz 0]++ [x.cz 1])++ [x.cz 2])++if 3<3+x.o then [x.cz 3]else [])++if 4<3+x.o then [x.cz 4]else [])++if 5<3+x.o then [x.cz 5]else [])++if 6<3+x.o then [x.cz 6]else [])=(List.range (3+x.o)).map x.cz:=by
 have h:x.o=0∨x.o=1∨x.o=2∨x.o=3:=by omega
 rcases h with h|h|h|h<;>simp[h,List.range_succ]
theorem zhj{x:Rq}(hx:x.ok)(rp:List Int):(((if jq x rp 0=true then [(0:Int)]else [])++if jq x rp 1=true then [1]else [])++if jq x rp 2=true then [2]else [])=nd x rp:=by
 rw[zmn hx];cases h0:jq x rp 0<;>cases h1:jq x rp 1<;>cases h2:jq x rp 2<;>simp[h0,h1,h2,List.range_succ]
theorem fiN(be:Bool)(es:List Int)(Y:Cx)(rz:Nat)(rb:Bool)(rp:List Int)(vs:List (Bool×List Int))(cs:List Cz)(N:List Int):wz be es Y rz rb rp 7 vs cs N=some (.ret (.tup [.agg [.sl true 1 (vs.map rwV),.int .i64 Y.n,.sl true 3 (cs.map czV)],k7 1 (N.map zx)]),[],0,[]):=by
 cases N with
 |nil=>exact yyc be es Y rz rb rp vs cs []
 |cons a r=>exact yyb be es Y rz rb rp vs cs (a::r)
theorem yrl(be:Bool)(e0:Int)(Y:Cx)(rz:Nat)(rb:Bool)(rp:List Int)(hz:rp≠ []→rz=1)(hb:rp.length<1000000)(hx:(mkR [e0] Y).ok)(hn:0≤Y.n∧Y.n≤255)(ho:0≤Y.o∧Y.o≤255):
  (zu T).call 14 [zy be [e0] Y,.sl rb rz (rp.map zx)] [] 0 []=some (.tup [xq ((mkR [e0] Y).pk rp),k7 1 ((nd (mkR [e0] Y) rp).map zx)],[],0,[]):=by
 have he0:0≤e0∧e0≤65535:=hx.e 0;have hl00:0≤Y.l00∧Y.l00≤65535:=hx.l 0 0;have hd0:0≤Y.d0∧Y.d0≤255:=hx.d 0;have hl10:0≤Y.l10∧Y.l10≤65535:=hx.l 1 0;have hd1:0≤Y.d1∧Y.d1≤255:=hx.d 1;have hl20:0≤Y.l20∧Y.l20≤65535:=hx.l 2 0;have hd2:0≤Y.d2∧Y.d2≤255:=hx.d 2;refine st be [e0] Y rz rb rp hn _ ?_;refine(xds be e0 Y rz rb rp hz hb he0 hn ho hl00 hd0).trans ?_;have n0:(if jq (mkR [e0] Y) rp 0=true then [(0:Int)]else []).length≤1:=by split<;>simp
 refine(xdr be e0 Y rz rb rp hz hb he0 hn ho hl10 hd1 _ _ _ (by simp) (by simp) (by omega)).trans ?_;have n1:=ja (p:=jq (mkR [e0] Y) rp 1=true) (a:=(1:Int)) n0;refine(xdq be e0 Y rz rb rp hz hb he0 hn ho hl20 hd2 _ _ _ (by simp) (by simp) (by omega)).trans ?_;have n2:=ja (p:=jq (mkR [e0] Y) rp 2=true) (a:=(2:Int)) n1;have c2:(([(mkR [e0] Y).cz 0]++ [(mkR [e0] Y).cz 1])++ [(mkR [e0] Y).cz 2]).length≤3:=by simp
 refine(zip be e0 Y rz rb rp hz hb he0 hn ho 3 (by decide) 51 rfl zki _ _ _ (by simp) (by omega) (by omega)).trans ?_;have c3:=ja (p:=3<3+(mkR [e0] Y).o) (a:=(mkR [e0] Y).cz 3) c2;refine(zip be e0 Y rz rb rp hz hb he0 hn ho 4 (by decide) 52 rfl zkh _ _ _ (by simp) (by omega) (by omega)).trans ?_;have c4:=ja (p:=4<3+(mkR [e0] Y).o) (a:=(mkR [e0] Y).cz 4) c3;refine(zip be e0 Y rz rb rp hz hb he0 hn ho 5 (by decide) 53 rfl zkg _ _ _ (by simp) (by omega) (by omega)).trans ?_;have c5:=ja (p:=5<3+(mkR [e0] Y).o) (a:=(mkR [e0] Y).cz 5) c4;refine(zip be e0 Y rz rb rp hz hb he0 hn ho 6 (by decide) 54 rfl zkf _ _ _ (by simp) (by omega) (by omega)).trans ?_;have c6:=ja (p:=6<3+(mkR [e0] Y).o) (a:=(mkR [e0] Y).cz 6) c5;refine(fiN be [e0] Y rz rb rp _ _ _).trans ?_;rw[znx (mkR [e0] Y) hx.o,zhj hx];rfl
theorem yrk(be:Bool)(e0 e1:Int)(Y:Cx)(rz:Nat)(rb:Bool)(rp:List Int)(hz:rp≠ []→rz=1)(hb:rp.length<1000000)(hx:(mkR [e0,e1] Y).ok)(hn:0≤Y.n∧Y.n≤255)(ho:0≤Y.o∧Y.o≤255):
  (zu T).call 14 [zy be [e0,e1] Y,.sl rb rz (rp.map zx)] [] 0 []=some (.tup [xq ((mkR [e0,e1] Y).pk rp),k7 1 ((nd (mkR [e0,e1] Y) rp).map zx)],[],0,[]):=by
 have he0:0≤e0∧e0≤65535:=hx.e 0;have he1:0≤e1∧e1≤65535:=hx.e 1;have hl00:0≤Y.l00∧Y.l00≤65535:=hx.l 0 0;have hl01:0≤Y.l01∧Y.l01≤65535:=hx.l 0 1;have hd0:0≤Y.d0∧Y.d0≤255:=hx.d 0;have hl10:0≤Y.l10∧Y.l10≤65535:=hx.l 1 0;have hl11:0≤Y.l11∧Y.l11≤65535:=hx.l 1 1;have hd1:0≤Y.d1∧Y.d1≤255:=hx.d 1;have hl20:0≤Y.l20∧Y.l20≤65535:=hx.l 2 0;have hl21:0≤Y.l21∧Y.l21≤65535:=hx.l 2 1;have hd2:0≤Y.d2∧Y.d2≤255:=hx.d 2;refine st be [e0,e1] Y rz rb rp hn _ ?_;refine(xdp be e0 e1 Y rz rb rp hz hb he0 he1 hn ho hl00 hl01 hd0).trans ?_;have n0:(if jq (mkR [e0,e1] Y) rp 0=true then [(0:Int)]else []).length≤1:=by split<;>simp
 refine(xdo be e0 e1 Y rz rb rp hz hb he0 he1 hn ho hl10 hl11 hd1 _ _ _ (by simp) (by simp) (by omega)).trans ?_;have n1:=ja (p:=jq (mkR [e0,e1] Y) rp 1=true) (a:=(1:Int)) n0;refine(xdn be e0 e1 Y rz rb rp hz hb he0 he1 hn ho hl20 hl21 hd2 _ _ _ (by simp) (by simp) (by omega)).trans ?_;have n2:=ja (p:=jq (mkR [e0,e1] Y) rp 2=true) (a:=(2:Int)) n1;have c2:(([(mkR [e0,e1] Y).cz 0]++ [(mkR [e0,e1] Y).cz 1])++ [(mkR [e0,e1] Y).cz 2]).length≤3:=by simp
 refine(zio be e0 e1 Y rz rb rp hz hb he0 he1 hn ho 3 (by decide) 51 rfl zki _ _ _ (by simp) (by omega) (by omega)).trans ?_;have c3:=ja (p:=3<3+(mkR [e0,e1] Y).o) (a:=(mkR [e0,e1] Y).cz 3) c2;refine(zio be e0 e1 Y rz rb rp hz hb he0 he1 hn ho 4 (by decide) 52 rfl zkh _ _ _ (by simp) (by omega) (by omega)).trans ?_;have c4:=ja (p:=4<3+(mkR [e0,e1] Y).o) (a:=(mkR [e0,e1] Y).cz 4) c3;refine(zio be e0 e1 Y rz rb rp hz hb he0 he1 hn ho 5 (by decide) 53 rfl zkg _ _ _ (by simp) (by omega) (by omega)).trans ?_;have c5:=ja (p:=5<3+(mkR [e0,e1] Y).o) (a:=(mkR [e0,e1] Y).cz 5) c4;refine(zio be e0 e1 Y rz rb rp hz hb he0 he1 hn ho 6 (by decide) 54 rfl zkf _ _ _ (by simp) (by omega) (by omega)).trans ?_;have c6:=ja (p:=6<3+(mkR [e0,e1] Y).o) (a:=(mkR [e0,e1] Y).cz 6) c5;refine(fiN be [e0,e1] Y rz rb rp _ _ _).trans ?_;rw[znx (mkR [e0,e1] Y) hx.o,zhj hx];rfl
theorem yrj(be:Bool)(e0 e1 e2:Int)(Y:Cx)(rz:Nat)(rb:Bool)(rp:List Int)(hz:rp≠ []→rz=1)(hb:rp.length<1000000)(hx:(mkR [e0,e1,e2] Y).ok)(hn:0≤Y.n∧Y.n≤255)(ho:0≤Y.o∧Y.o≤255):
  (zu T).call 14 [zy be [e0,e1,e2] Y,.sl rb rz (rp.map zx)] [] 0 []=some (.tup [xq ((mkR [e0,e1,e2] Y).pk rp),k7 1 ((nd (mkR [e0,e1,e2] Y) rp).map zx)],[],0,[]):=by
 have he0:0≤e0∧e0≤65535:=hx.e 0;have he1:0≤e1∧e1≤65535:=hx.e 1;have he2:0≤e2∧e2≤65535:=hx.e 2;have hl00:0≤Y.l00∧Y.l00≤65535:=hx.l 0 0;have hl01:0≤Y.l01∧Y.l01≤65535:=hx.l 0 1;have hl02:0≤Y.l02∧Y.l02≤65535:=hx.l 0 2;have hd0:0≤Y.d0∧Y.d0≤255:=hx.d 0;have hl10:0≤Y.l10∧Y.l10≤65535:=hx.l 1 0;have hl11:0≤Y.l11∧Y.l11≤65535:=hx.l 1 1;have hl12:0≤Y.l12∧Y.l12≤65535:=hx.l 1 2;have hd1:0≤Y.d1∧Y.d1≤255:=hx.d 1;have hl20:0≤Y.l20∧Y.l20≤65535:=hx.l 2 0;have hl21:0≤Y.l21∧Y.l21≤65535:=hx.l 2 1;have hl22:0≤Y.l22∧Y.l22≤65535:=hx.l 2 2;have hd2:0≤Y.d2∧Y.d2≤255:=hx.d 2;refine st be [e0,e1,e2] Y rz rb rp hn _ ?_;refine(xdm be e0 e1 e2 Y rz rb rp hz hb he0 he1 he2 hn ho hl00 hl01 hl02 hd0).trans ?_;have n0:(if jq (mkR [e0,e1,e2] Y) rp 0=true then [(0:Int)]else []).length≤1:=by split<;>simp
 refine(xdl be e0 e1 e2 Y rz rb rp hz hb he0 he1 he2 hn ho hl10 hl11 hl12 hd1 _ _ _ (by simp) (by simp) (by omega)).trans ?_;have n1:=ja (p:=jq (mkR [e0,e1,e2] Y) rp 1=true) (a:=(1:Int)) n0;refine(xdk be e0 e1 e2 Y rz rb rp hz hb he0 he1 he2 hn ho hl20 hl21 hl22 hd2 _ _ _ (by simp) (by simp) (by omega)).trans ?_;have n2:=ja (p:=jq (mkR [e0,e1,e2] Y) rp 2=true) (a:=(2:Int)) n1;have c2:(([(mkR [e0,e1,e2] Y).cz 0]++ [(mkR [e0,e1,e2] Y).cz 1])++ [(mkR [e0,e1,e2] Y).cz 2]).length≤3:=by simp
 refine(zin be e0 e1 e2 Y rz rb rp hz hb he0 he1 he2 hn ho 3 (by decide) 51 rfl zki _ _ _ (by simp) (by omega) (by omega)).trans ?_;have c3:=ja (p:=3<3+(mkR [e0,e1,e2] Y).o) (a:=(mkR [e0,e1,e2] Y).cz 3) c2;refine(zin be e0 e1 e2 Y rz rb rp hz hb he0 he1 he2 hn ho 4 (by decide) 52 rfl zkh _ _ _ (by simp) (by omega) (by omega)).trans ?_;have c4:=ja (p:=4<3+(mkR [e0,e1,e2] Y).o) (a:=(mkR [e0,e1,e2] Y).cz 4) c3;refine(zin be e0 e1 e2 Y rz rb rp hz hb he0 he1 he2 hn ho 5 (by decide) 53 rfl zkg _ _ _ (by simp) (by omega) (by omega)).trans ?_;have c5:=ja (p:=5<3+(mkR [e0,e1,e2] Y).o) (a:=(mkR [e0,e1,e2] Y).cz 5) c4;refine(zin be e0 e1 e2 Y rz rb rp hz hb he0 he1 he2 hn ho 6 (by decide) 54 rfl zkf _ _ _ (by simp) (by omega) (by omega)).trans ?_;have c6:=ja (p:=6<3+(mkR [e0,e1,e2] Y).o) (a:=(mkR [e0,e1,e2] Y).cz 6) c5;refine(fiN be [e0,e1,e2] Y rz rb rp _ _ _).trans ?_;rw[znx (mkR [e0,e1,e2] Y) hx.o,zhj hx];rfl
theorem k14(be:Bool)(es:List Int)(Y:Cx)(rz:Nat)(rb:Bool)(rp:List Int)(hz:rp≠ []→rz=1)(hb:rp.length<1000000)(hx:(mkR es Y).ok)(hn:0≤Y.n∧Y.n≤255)(ho:0≤Y.o∧Y.o≤255):
  (zu T).call 14 [zy be es Y,.sl rb rz (rp.map zx)] [] 0 []=some (.tup [xq ((mkR es Y).pk rp),k7 1 ((nd (mkR es Y) rp).map zx)],[],0,[]):=by
 have h1:1≤es.length:=hx.m1;have h3:es.length≤3:=hx.m3
 match es,h1,h3 with
 | [e0],_,_=>exact yrl be e0 Y rz rb rp hz hb hx hn ho
 | [e0,e1],_,_=>exact yrk be e0 e1 Y rz rb rp hz hb hx hn ho
 | [e0,e1,e2],_,_=>exact yrj be e0 e1 e2 Y rz rb rp hz hb hx hn ho
 | [],h,_=>simp at h
 |_::_::_::_::_,_,h=>simp at h
theorem gj:IntKind.i64.wrap 1=1:=rfl
theorem gq:IntKind.i64.wrap 2=2:=rfl
theorem wk3:IntKind.i64.wrap 3=3:=rfl
structure Pl where
 i:List Int
 w:Int
def uk(p:Pl):V:= .agg [.sl (!p.i.isEmpty) 1 (p.i.map zx),.int .i64 p.w]
def plW(p:Pl):V:= .agg [k7 1 (p.i.map zx),.int .i64 p.w]
structure Pl.ok (p:Pl):Prop where
 l:p.i.length<1000
theorem yww(p o:Pl):(zu T).call 174 [uk p,uk o] [] 0 []=some (.int .i64 (vw o.w p.w),[],0,[]):=by
 rw[xar];simp -implicitDefEqProofs only[go_sem,simprocAttr,uk,zft]
theorem ywv(p o:Pl):(zu T).call 175 [uk p,uk o] [] 0 []=some (.int .i64 (vw p.i.length o.i.length),[],0,[]):=by
 rw[xaq];simp -implicitDefEqProofs only[go_sem,simprocAttr,uk,zft]
theorem ywu(p o:Pl)(hp:p.ok)(ho:o.ok):(zu T).call 176 [uk p,uk o] [] 0 []=some (.int .i64 (cmpL p.i o.i),[],0,[]):=by
 have e:=ykr (!p.i.isEmpty) (!o.i.isEmpty) 1 1 p.i o.i (fun _=>rfl) (fun _=>rfl) (by have:=hp.l;omega) (by have:=ho.l;omega);rw[xap];simp -implicitDefEqProofs only[go_sem,simprocAttr,uk,e]
def zai(p o:Pl):Int:=bif vw o.w p.w !=0 then vw o.w p.w else bif vw p.i.length o.i.length !=0 then vw p.i.length o.i.length else cmpL p.i o.i
@[go_sem]theorem glob1:T.glob 1=some [.str [119,111,114,116,104],.fn 174 [],.str [110,117,109,98,101,114],.fn 175 [],.str [102,105,114,115,116],.fn 176 []]:=by kernel_rfl
theorem ywx(p o:Pl)(hp:p.ok)(ho:o.ok):(zu T).call 105 [uk p,uk o] [] 0 []=some (.int .i64 (zai p o),[],0,[]):=by
 have e1:=yww p o;have e2:=ywv p o;have e3:=ywu p o hp ho;unfold zai;simp only[uk]at e1 e2 e3⊢;rw[xbc];simp -implicitDefEqProofs only[go_sem,simprocAttr];rw[zq];cases h1:(vw o.w p.w !=0)
 ·simp -implicitDefEqProofs only[go_sem,simprocAttr,e1,h1,gj]
  rw[zq];cases h2:(vw p.i.length o.i.length !=0)
  ·simp -implicitDefEqProofs only[go_sem,simprocAttr,e2,h2,gq]
   rw[zq];cases h3:(cmpL p.i o.i !=0)
   ·have h4:cmpL p.i o.i=0:=by simpa using h3
    simp -implicitDefEqProofs only[go_sem,simprocAttr,e3,h3,wk3];rw[zq];simp -implicitDefEqProofs only[go_sem,simprocAttr,h4]
   ·simp -implicitDefEqProofs only[go_sem,simprocAttr,e3,h3]
  ·simp -implicitDefEqProofs only[go_sem,simprocAttr,e2,h2]
 ·simp -implicitDefEqProofs only[go_sem,simprocAttr,e1,h1]
def qq:Pl→List Pl→Pl
 |m,[]=>m
 |m,x::r=>qq (bif decide (zai x m<0)then x else m) r
theorem yvi(l:List Pl)(hl:∀p∈l,p.ok)(hb:l.length<1000000):∀i,i≤l.length→∀m:Pl,m.ok→
  (zu T).loop false [.code (.loop zjo),.inBlock 0,.code (.seq zl4 .ret)] ⟨104,33,0,[(0,.sl true 2 (l.map plW)),(1,.fn 105 []),(4,.ptr 0 0 0),(5,.ptr 1 0 0),(6,.int .i64 i)],[.cells true true 149 [.agg [.sl false 0 [],.int .i64 0]],.cells true true 149 [uk m]],0,[]⟩=some (.ret (uk (qq m (l.drop i))),[],0,[]):=by
 refine xh l.length ?_ fun i hi ih=> ?_
 ·intro m hm
  rw[zq];have h1:=xu l.length;simp -implicitDefEqProofs only[go_sem,simprocAttr,h1,uk];simp[qq]
 ·intro m hm
  obtain⟨h1,h2,h3,h4,h5⟩:=ze hi (by omega);have hx:=hl _ (List.getElem_mem hi);have e:=ywx l[i] m hx hm;rw[zq,h5];simp only[qq];cases h6:decide (zai l[i] m<0)
  ·have ih:=ih m hm
   simp only[uk]at e ih⊢;simp -implicitDefEqProofs only[go_sem,simprocAttr,h1,h2,h3,h4,e,h6,plW,List.isEmpty_map,ih]
  ·have ih:=ih l[i] hx
   simp only[uk]at e ih⊢;simp -implicitDefEqProofs only[go_sem,simprocAttr,h1,h2,h3,h4,e,h6,plW,List.isEmpty_map,ih]
theorem k57(x:Pl)(l:List Pl)(hl:∀p∈x::l,p.ok)(hb:(x::l).length<1000000):
  (zu T).call 57 [.sl true 2 ((x::l).map plW)] [] 0 []=some (uk (qq x l),[],0,[]):=by
 have e:=yvi (x::l) hl hb 1 (by simp) x (hl x (List.mem_cons_self ..))
 have e1:(zu T).call 104 [.sl true 2 ((x::l).map plW),.fn 105 []] [] 0 []=some (uk (qq x l),[],0,[]):=by
  rw[xbd];have h1:decide (((l.length+1:Nat):Int)<1)=false:=decide_eq_false (by omega);have h2:decide (0<((l.length+1:Nat):Int))=true:=decide_eq_true (by omega);rw[show((1:Nat):Int)=1 from rfl]at e;simp only[uk,plW,List.map_cons,List.drop_succ_cons,List.drop_zero]at e⊢;simp -implicitDefEqProofs only[go_sem,simprocAttr,h1,h2,List.isEmpty_map,e]
 rw[yz1];simp only[uk,plW,List.map_cons]at e1⊢;simp -implicitDefEqProofs only[go_sem,simprocAttr,e1]
theorem yle:∀(l:List Pl) (m:Pl),qq m l∈m::l
 | [],m=>List.mem_cons_self ..
 |x::r,m=>by
  unfold qq;have h:=yle r (bif decide (zai x m<0)then x else m);rcases List.mem_cons.1 h with h|h
  ·rw[h]
   cases decide (zai x m<0)
   ·exact List.mem_cons_self ..
   ·exact List.mem_cons_of_mem _ (List.mem_cons_self ..)
  ·exact List.mem_cons_of_mem _ (List.mem_cons_of_mem _ h)
theorem ylc:∀(l:List Pl) (m:Pl),m.w≤(qq m l).w
 | [],m=>Int.le_refl _
 |x::r,m=>by
  unfold qq;have h:=ylc r (bif decide (zai x m<0)then x else m);refine Int.le_trans ?_ h;cases hc:decide (zai x m<0)
  ·exact Int.le_refl _
  ·have hc:zai x m<0:=of_decide_eq_true hc
   show m.w≤x.w;refine Int.not_lt.1 fun hlt=> ?_;unfold zai vw at hc;have d1:decide (m.w<x.w)=false:=decide_eq_false (by omega);have d2:decide (x.w<m.w)=true:=decide_eq_true hlt;rw[d1,d2]at hc;simp at hc
theorem yue(b:Bool)(l:List Int)(hb:l.length≤8)(hw:∀x∈l,0≤x∧x≤1000000):∀i,i≤l.length→
  ∀n:Int,0≤n∧n≤1000000*i→(zu T).loop false [.code (.loop zi8),.inBlock 0,.code (.seq zll .ret)] ⟨59,17,0,[(3,.int .i64 n),(6,.sl b 1 (l.map zx)),(7,.int .i64 l.length),(8,.int .i64 i)],[],0,[]⟩=some (.ret (.int .i64 (n+(l.drop i).sum)),[],0,[]):=by
 refine xh l.length ?_ fun i hi ih=> ?_
 ·intro n hn
  rw[zq];have h1:=xu l.length;simp -implicitDefEqProofs only[go_sem,simprocAttr,h1];simp
 ·intro n hn
  obtain⟨h1,h2,h3,h4,h5⟩:=ze hi (by omega);have hx:=hw _ (List.getElem_mem hi);have w1:IntKind.i64.wrap (n+l[i])=n+l[i]:=wrap64 (by omega) (by omega);have ih:=ih (n+l[i]) (by omega);rw[zq,h5];simp -implicitDefEqProofs only[go_sem,simprocAttr,h1,h2,h3,h4,w1,ih];simp only[List.sum_cons,Int.add_assoc]
theorem k59(b:Bool)(l:List Int)(hb:l.length≤8)(hw:∀x∈l,0≤x∧x≤1000000):(zu T).call 59 [.sl b 1 (l.map zx)] [] 0 []=some (.int .i64 l.sum,[],0,[]):=by
 have h:=yue b l hb hw 0 (by omega) 0 (by omega);rw[show((0:Nat):Int)=0 from rfl,List.drop_zero,Int.zero_add]at h;rw[yjs];simp -implicitDefEqProofs only[go_sem,simprocAttr,h]
theorem k61(s:Sd)(n:Int)(hs:s.t=0)(hw:0≤s.w∧s.w≤1000000):(zu T).call 61 [qi s,.pp 1 [.int .i64 n] 0 0] [] 0 []=some (.int .i64 s.w,[],0,[]):=by
 have w1:IntKind.i64.wrap (s.w- 0)=s.w:=by rw[wrap64 (by omega) (by omega)];omega
 have w2:max 0 s.w=s.w:=by omega
 have w0:IntKind.i64.wrap 0=0:=rfl;rw[yzy];simp -implicitDefEqProofs only[go_sem,simprocAttr,qi,hs,Int.mul_zero,w0,w1,w2]
theorem yud(b:Bool)(l:List Sd)(n:Int)(hb:l.length≤8)(hw:∀s∈l,s.t=0∧0≤s.w∧s.w≤1000000):∀i,i≤l.length→0<i→
  (zu T).loop false [.code (.loop zi7),.inBlock 0,.code (.seq zlk .ret)] ⟨60,22,0,[(1,.fn 61 [.pp 1 [.int .i64 n] 0 0]),(5,.ref 0),(8,.sl b 5 (l.map qi)),(9,.int .i64 l.length),(10,.int .i64 i)],[.cells false true 3 (((l.take i).map (·.w)).map zx)],0,[]⟩=some (.ret (.sl true 1 ((l.map (·.w)).map zx)),[],0,[]):=by
 refine xh l.length ?_ fun i hi ih=> ?_
 ·intro h0
  rw[zq];have h1:=xu l.length;simp -implicitDefEqProofs only[go_sem,simprocAttr,h1];rw[List.take_length]
 ·intro h0
  obtain⟨h1,h2,h3,h4,h5⟩:=ze hi (by omega);have hx:=hw _ (List.getElem_mem hi);have e:=k61 l[i] n hx.1 hx.2;have ih:=ih (by omega);simp only[qi]at e;rw[List.take_succ_eq_append_getElem hi]at ih;simp only[List.map_append,List.map_cons,List.map_nil,zx]at ih;have mx:decide ((l.take i).length+1<maxRow)=true:=decide_eq_true (by rw[List.length_take];unfold maxRow;omega);rw[zq];simp -implicitDefEqProofs only[go_sem,simprocAttr,h1,h2,h3,h4,e,ih,mx]
theorem k60(b:Bool)(l:List Sd)(n:Int)(hb:l.length≤8)(hw:∀s∈l,s.t=0∧0≤s.w∧s.w≤1000000):
  (zu T).call 60 [.sl b 5 (l.map qi),.fn 61 [.pp 1 [.int .i64 n] 0 0]] [] 0 []=some (k7 1 ((l.map (·.w)).map zx),[],0,[]):=by
 rw[yzz];cases l with
 |nil=>
  simp -implicitDefEqProofs only[go_sem,simprocAttr];rw[zq];simp -implicitDefEqProofs only[go_sem,simprocAttr];rfl
 |cons s l=>
  have hx:=hw s (List.mem_cons_self ..);have e:=k61 s n hx.1 hx.2;have h:=yud b (s::l) n hb hw 1 (by simp) (by omega);rw[show((1:Nat):Int)=1 from rfl,List.take_succ_cons,List.take_zero]at h;have h1:decide (0<((l.length+1:Nat):Int))=true:=decide_eq_true (by omega);have h0:decide ((0:Int)≤0∧0<((l.length+1:Nat):Int))=true:=decide_eq_true (by omega);have mx:decide (1<maxRow)=true:=by decide
  simp only[qi,List.map_cons,List.map_nil,zx,List.length_cons]at e h⊢;simp -implicitDefEqProofs only[go_sem,simprocAttr];rw[zq];simp -implicitDefEqProofs only[go_sem,simprocAttr,h1,h0,e,mx,wrap64,h];rfl
theorem k22{c:Int×Int}{ct cp:Int}(hc:OkC c ct cp)(ht:ct=0)(b:Bool)(l:List Sd)(hl:OkS l)(hw:∀s∈l,s.t=0)(n:Int)(hn:0≤n∧n≤1000):
  (zu T).call 22 [jk c ct cp,.sl b 5 (l.map qi),.int .i64 n] [] 0 []=some (.tup [.int .i64 (l.map (·.w)).sum,.int .i64 0],[],0,[]):=by
 have hlen:=hl.len;have e1:=k55 c.1 c.2 ct cp;rw[hc.ck]at e1;have e2:=k56 b l hl;have e3:=k58 n;rw[zej hn]at e3;have e4:=k60 b l n hlen fun s hs=>⟨hw s hs,hl.w s hs⟩
 have e5:(zu T).call 59 [k7 1 ((l.map (·.w)).map zx)] [] 0 []=some (.int .i64 (l.map (·.w)).sum,[],0,[]):=by
  have hq:∀x∈l.map (·.w),0≤x∧x≤1000000:=fun x hx=>by
   obtain⟨s,hs,rfl⟩:=List.mem_map.1 hx;exact hl.w s hs
  have h:=k59 true (l.map (·.w)) (by simpa using hlen) hq;cases l with
  |nil=>
   rw[yjs];simp -implicitDefEqProofs only[go_sem,simprocAttr,k7,List.map_nil];rw[zq];simp -implicitDefEqProofs only[go_sem,simprocAttr];rfl
  |cons s l=>exact h
 have f0:qo [0,0,0]=0:=rfl
 have hs:0≤(l.map (·.w)).sum∧(l.map (·.w)).sum≤1000000*l.length:=by
  have:∀m:List Sd,(∀s∈m,0≤s.w∧s.w≤1000000)→0≤(m.map (·.w)).sum∧(m.map (·.w)).sum≤1000000*m.length:=by
   intro m
   induction m with
   |nil=>intro _;simp
   |cons s m ih=>
    intro h;have h1:=h s (List.mem_cons_self ..);have h2:=ih fun s hs=>h s (List.mem_cons_of_mem _ hs);simp only[List.map_cons,List.sum_cons,List.length_cons];omega
  exact this l hl.w
 have w1:IntKind.i64.wrap (n*0)=0:=by rw[Int.mul_zero];rfl
 have w2:IntKind.i64.wrap (0+(l.map (·.w)).sum)=(l.map (·.w)).sum:=by rw[Int.zero_add];exact wrap64 (by omega) (by omega)
 subst ht;simp only[jk];rw[xam];cases l with
 |nil=>
  have e6:=k59 false [] (by simp) (by simp);simp only[List.map_nil,k7,List.sum_nil]at e2 e4 e6 w2⊢;simp -implicitDefEqProofs only[go_sem,simprocAttr,e1,e2,e3,zm1,f0,w1,w2,e4,e6];rfl
 |cons s l=>
  simp only[List.map_cons,k7,qi,zx]at e2 e4 e5 w2⊢;simp -implicitDefEqProofs only[go_sem,simprocAttr,e1,e2,e3,zm1,f0,w1,w2,e4,e5]
variable (c:Int×Int) (cp:Int) (b:Bool) (l:List Sd) (N:Int)
abbrev cw:Row:= .cells true true 58 [.agg [.int .i64 c.1,.int .i64 c.2,.int .i64 0,.int .i64 cp]]
def hc(bits i:Int)(al:V)(pl:Nat)(R:zw):Option Out:=
 (zu T).loop false [.code (.loop zjh),.inBlock 2,.code ((r21_18.seq (.cond (.tmp 66) (.exit 1) .skip)).seq (r21_19.seq (r21_20.seq zly))),.inBlock 1,.code zlx,.inLoop zf3,.inBlock 0,.code (r21_23.seq (r21_24.seq .ret))]
  ⟨21,96,0,[(1,.sl b 5 (l.map qi)),(2,.ptr 0 0 0),(8,al),(9,.int .i64 bits),(10,.ptr pl 0 0),(11,.int .i64 0),(28,.int .i64 N),(29,.int .i64 bits),(32,.sl b 5 (l.map qi)),(33,.int .i64 l.length),(34,.int .i64 i)],cw c cp::R,0,[]⟩
def hb(bits:Int)(al:V)(R:zw):Option Out:=
 (zu T).loop false [.code (.loop zf3),.inBlock 0,.code (r21_23.seq (r21_24.seq .ret))]
  ⟨21,96,0,[(1,.sl b 5 (l.map qi)),(2,.ptr 0 0 0),(8,al),(28,.int .i64 N),(29,.int .i64 bits)],cw c cp::R,0,[]⟩
abbrev vq(w:Int):Row:= .cells true true 149 [.agg [.sl false 0 [],.int .i64 w]]
abbrev gp(w:Int):Row:= .cells true false 149 [.agg [.ref 3,.int .i64 w]]
abbrev aR(P:List Pl):Row:= .cells false true 149 (P.map plW)
abbrev iR(I:List Int):Row:= .cells false true 3 (I.map zx)
def xfk(a b:Int):Int:=IntKind.i64.wrap ((BitVec.ofInt IntKind.i64.bits a&&&BitVec.ofInt IntKind.i64.bits b).toNat:Int)
def yos(a b:Int):Int:=a.fdiv (2^(min b.toNat IntKind.i64.bits))
def q8(bits:Int)(i:Int):Int:=xfk (yos bits i) 1
theorem zh0(hN:decide (0<N)=true):hb c cp b l N 0 (.sl false 0 []) []=hc c cp b l N 0 0 (.sl false 0 []) 1 [vq 0]:=by
 unfold hb hc;rw[zq];simp -implicitDefEqProofs only[go_sem,simprocAttr,hN]
theorem in_1(bits:Int)(P:List Pl)(hN:decide (bits<N)=true):hb c cp b l N bits (.ref 1) [aR P]=hc c cp b l N bits 0 (.ref 1) 2 [aR P,vq 0]:=by
 unfold hb hc;rw[zq];simp -implicitDefEqProofs only[go_sem,simprocAttr,hN]
theorem z_0(s:Sd)(hs:l[0]? =some s)(hlt:decide ((0:Int)<(l.length:Int))=true)(ht:s.t=0):hc c cp b l N 0 0 (.sl false 0 []) 1 [vq 0]=hc c cp b l N 0 1 (.sl false 0 []) 1 [vq 0]:=by
 have hv:q8 0 0=0:=by decide
 have w3:IntKind.i64.wrap 1=1:=rfl;have w0:IntKind.i64.wrap 0=0:=rfl;unfold hc;rw[zq];simp -implicitDefEqProofs only[go_sem,simprocAttr,hlt,hs,qi,w3,w0,ht];show br (q8 0 0==1) _ _=_;rw[hv];simp -implicitDefEqProofs only[go_sem,simprocAttr]
theorem zgj(bits:Int)(P:List Pl)(s:Sd)(hs:l[0]? =some s)(hlt:decide ((0:Int)<(l.length:Int))=true)(ht:s.t=0)(hv:q8 bits 0=0):hc c cp b l N bits 0 (.ref 1) 2 [aR P,vq 0]=hc c cp b l N bits 1 (.ref 1) 2 [aR P,vq 0]:=by
 have w3:IntKind.i64.wrap 1=1:=rfl;have w0:IntKind.i64.wrap 0=0:=rfl;unfold hc;rw[zq];simp -implicitDefEqProofs only[go_sem,simprocAttr,hlt,hs,qi,w3,w0,ht];show br (q8 bits 0==1) _ _=_;rw[hv];simp -implicitDefEqProofs only[go_sem,simprocAttr]
theorem zbx(bits:Int)(P:List Pl)(s:Sd)(hs:l[0]? =some s)(hlt:decide ((0:Int)<(l.length:Int))=true)(ht:s.t=0)(hv:q8 bits 0=1)(hw:0≤s.w∧s.w≤1000000):hc c cp b l N bits 0 (.ref 1) 2 [aR P,vq 0]=hc c cp b l N bits 1 (.ref 1) 2 [aR P,gp s.w,iR [0]]:=by
 have w1:IntKind.i64.wrap (0+s.w)=s.w:=by rw[Int.zero_add];exact wrap64 (by omega) (by omega)
 have mx:decide (1<maxRow)=true:=by decide
 have w3:IntKind.i64.wrap 1=1:=rfl;have w0:IntKind.i64.wrap 0=0:=rfl;unfold hc;rw[zq];simp -implicitDefEqProofs only[go_sem,simprocAttr,hlt,hs,qi,w3,w0,ht,w1,mx];show br (q8 bits 0==1) _ _=_;rw[hv];simp -implicitDefEqProofs only[go_sem,simprocAttr];rfl
theorem z_1(s:Sd)(hs:l[1]? =some s)(hlt:decide ((1:Int)<(l.length:Int))=true)(ht:s.t=0):hc c cp b l N 0 1 (.sl false 0 []) 1 [vq 0]=hc c cp b l N 0 2 (.sl false 0 []) 1 [vq 0]:=by
 have hv:q8 0 1=0:=by decide
 have w3:IntKind.i64.wrap 2=2:=rfl;have w0:IntKind.i64.wrap 0=0:=rfl;unfold hc;rw[zq];simp -implicitDefEqProofs only[go_sem,simprocAttr,hlt,hs,qi,w3,w0,ht];show br (q8 0 1==1) _ _=_;rw[hv];simp -implicitDefEqProofs only[go_sem,simprocAttr]
theorem ym8(bits:Int)(P:List Pl)(s:Sd)(hs:l[1]? =some s)(hlt:decide ((1:Int)<(l.length:Int))=true)(ht:s.t=0)(hv:q8 bits 1=0):hc c cp b l N bits 1 (.ref 1) 2 [aR P,vq 0]=hc c cp b l N bits 2 (.ref 1) 2 [aR P,vq 0]:=by
 have w3:IntKind.i64.wrap 2=2:=rfl;have w0:IntKind.i64.wrap 0=0:=rfl;unfold hc;rw[zq];simp -implicitDefEqProofs only[go_sem,simprocAttr,hlt,hs,qi,w3,w0,ht];show br (q8 bits 1==1) _ _=_;rw[hv];simp -implicitDefEqProofs only[go_sem,simprocAttr]
theorem zkc(bits w:Int)(I:List Int)(P:List Pl)(s:Sd)(hs:l[1]? =some s)(hlt:decide ((1:Int)<(l.length:Int))=true)(ht:s.t=0)(hv:q8 bits 1=0):hc c cp b l N bits 1 (.ref 1) 2 [aR P,gp w,iR I]=hc c cp b l N bits 2 (.ref 1) 2 [aR P,gp w,iR I]:=by
 have w3:IntKind.i64.wrap 2=2:=rfl;have w0:IntKind.i64.wrap 0=0:=rfl;unfold hc;rw[zq];simp -implicitDefEqProofs only[go_sem,simprocAttr,hlt,hs,qi,w3,w0,ht];show br (q8 bits 1==1) _ _=_;rw[hv];simp -implicitDefEqProofs only[go_sem,simprocAttr]
theorem zj8(bits:Int)(P:List Pl)(s:Sd)(hs:l[1]? =some s)(hlt:decide ((1:Int)<(l.length:Int))=true)(ht:s.t=0)(hv:q8 bits 1=1)(hw:0≤s.w∧s.w≤1000000):hc c cp b l N bits 1 (.ref 1) 2 [aR P,vq 0]=hc c cp b l N bits 2 (.ref 1) 2 [aR P,gp s.w,iR [1]]:=by
 have w1:IntKind.i64.wrap (0+s.w)=s.w:=by rw[Int.zero_add];exact wrap64 (by omega) (by omega)
 have mx:decide (1<maxRow)=true:=by decide
 have w3:IntKind.i64.wrap 2=2:=rfl;have w0:IntKind.i64.wrap 0=0:=rfl;unfold hc;rw[zq];simp -implicitDefEqProofs only[go_sem,simprocAttr,hlt,hs,qi,w3,w0,ht,w1,mx];show br (q8 bits 1==1) _ _=_;rw[hv];simp -implicitDefEqProofs only[go_sem,simprocAttr];rfl
theorem zj7(bits w:Int)(I:List Int)(hI:I.length≤8)(P:List Pl)(s:Sd)(hs:l[1]? =some s)(hlt:decide ((1:Int)<(l.length:Int))=true)(ht:s.t=0)(hv:q8 bits 1=1)(hw:0≤w+s.w∧w+s.w≤8000000):hc c cp b l N bits 1 (.ref 1) 2 [aR P,gp w,iR I]=hc c cp b l N bits 2 (.ref 1) 2 [aR P,gp (w+s.w),iR (I++ [1])]:=by
 have w1:IntKind.i64.wrap (w+s.w)=w+s.w:=wrap64 (by omega) (by omega);have mx:decide (I.length+1<maxRow)=true:=decide_eq_true (by unfold maxRow;omega);rw[show iR (I++ [1])= .cells false true 3 (I.map zx++ [.int .i64 1]) by unfold iR;rw[List.map_append];rfl];have w3:IntKind.i64.wrap 2=2:=rfl;have w0:IntKind.i64.wrap 0=0:=rfl;unfold hc;rw[zq];simp -implicitDefEqProofs only[go_sem,simprocAttr,hlt,hs,qi,w3,w0,ht,w1,mx];show br (q8 bits 1==1) _ _=_;rw[hv];simp -implicitDefEqProofs only[go_sem,simprocAttr]
theorem z_2(s:Sd)(hs:l[2]? =some s)(hlt:decide ((2:Int)<(l.length:Int))=true)(ht:s.t=0):hc c cp b l N 0 2 (.sl false 0 []) 1 [vq 0]=hc c cp b l N 0 3 (.sl false 0 []) 1 [vq 0]:=by
 have hv:q8 0 2=0:=by decide
 have w3:IntKind.i64.wrap 3=3:=rfl;have w0:IntKind.i64.wrap 0=0:=rfl;unfold hc;rw[zq];simp -implicitDefEqProofs only[go_sem,simprocAttr,hlt,hs,qi,w3,w0,ht];show br (q8 0 2==1) _ _=_;rw[hv];simp -implicitDefEqProofs only[go_sem,simprocAttr]
theorem zkb(bits w:Int)(I:List Int)(P:List Pl)(s:Sd)(hs:l[2]? =some s)(hlt:decide ((2:Int)<(l.length:Int))=true)(ht:s.t=0)(hv:q8 bits 2=0):hc c cp b l N bits 2 (.ref 1) 2 [aR P,gp w,iR I]=hc c cp b l N bits 3 (.ref 1) 2 [aR P,gp w,iR I]:=by
 have w3:IntKind.i64.wrap 3=3:=rfl;have w0:IntKind.i64.wrap 0=0:=rfl;unfold hc;rw[zq];simp -implicitDefEqProofs only[go_sem,simprocAttr,hlt,hs,qi,w3,w0,ht];show br (q8 bits 2==1) _ _=_;rw[hv];simp -implicitDefEqProofs only[go_sem,simprocAttr]
theorem ym3(bits:Int)(P:List Pl)(s:Sd)(hs:l[2]? =some s)(hlt:decide ((2:Int)<(l.length:Int))=true)(ht:s.t=0)(hv:q8 bits 2=1)(hw:0≤s.w∧s.w≤1000000):hc c cp b l N bits 2 (.ref 1) 2 [aR P,vq 0]=hc c cp b l N bits 3 (.ref 1) 2 [aR P,gp s.w,iR [2]]:=by
 have w1:IntKind.i64.wrap (0+s.w)=s.w:=by rw[Int.zero_add];exact wrap64 (by omega) (by omega)
 have mx:decide (1<maxRow)=true:=by decide
 have w3:IntKind.i64.wrap 3=3:=rfl;have w0:IntKind.i64.wrap 0=0:=rfl;unfold hc;rw[zq];simp -implicitDefEqProofs only[go_sem,simprocAttr,hlt,hs,qi,w3,w0,ht,w1,mx];show br (q8 bits 2==1) _ _=_;rw[hv];simp -implicitDefEqProofs only[go_sem,simprocAttr];rfl
theorem zj6(bits w:Int)(I:List Int)(hI:I.length≤8)(P:List Pl)(s:Sd)(hs:l[2]? =some s)(hlt:decide ((2:Int)<(l.length:Int))=true)(ht:s.t=0)(hv:q8 bits 2=1)(hw:0≤w+s.w∧w+s.w≤8000000):hc c cp b l N bits 2 (.ref 1) 2 [aR P,gp w,iR I]=hc c cp b l N bits 3 (.ref 1) 2 [aR P,gp (w+s.w),iR (I++ [2])]:=by
 have w1:IntKind.i64.wrap (w+s.w)=w+s.w:=wrap64 (by omega) (by omega);have mx:decide (I.length+1<maxRow)=true:=decide_eq_true (by unfold maxRow;omega);rw[show iR (I++ [2])= .cells false true 3 (I.map zx++ [.int .i64 2]) by unfold iR;rw[List.map_append];rfl];have w3:IntKind.i64.wrap 3=3:=rfl;have w0:IntKind.i64.wrap 0=0:=rfl;unfold hc;rw[zq];simp -implicitDefEqProofs only[go_sem,simprocAttr,hlt,hs,qi,w3,w0,ht,w1,mx];show br (q8 bits 2==1) _ _=_;rw[hv];simp -implicitDefEqProofs only[go_sem,simprocAttr]
theorem ez(k:Int)(hk:decide (k<(l.length:Int))=false)(hl:OkS l)(hc':OkC c 0 cp)(w2:IntKind.i64.wrap (0- IntKind.i64.wrap (cp*wayO c l []))= -(cp*wayO c l [])):hc c cp b l N 0 k (.sl false 0 []) 1 [vq 0]=hb c cp b l N 1 (.ref 1) [aR [⟨[],-(cp*wayO c l [])⟩]]:=by
 have w1:IntKind.i64.wrap 1=1:=rfl;have e:=yik hc' b false l hl 0;have mx:decide (1<maxRow)=true:=by decide
 have d0:decide ((0:Int)>0)=false:=rfl;simp only[jk]at e;unfold hc hb;rw[zq];simp -implicitDefEqProofs only[go_sem,simprocAttr,hk,e,mx,w1,w2,d0]
 try rfl
theorem er(bits w v:Int)(k:Int)(hk:decide (k<(l.length:Int))=false)(P:List Pl)(hP:P.length≤300)(y:Int)(ys:List Int)(O:List V)(hb':0≤bits∧bits≤300)
  (e:(zu T).call 36 [jk c 0 cp,.sl b 5 (l.map qi),.sl true 1 ((y::ys).map zx)] [] 0 []=some (.tup [.sl true 1 O,.int .i64 v],[],0,[]))
  (w2:IntKind.i64.wrap (w- IntKind.i64.wrap (cp*v))=w- cp*v):hc c cp b l N bits k (.ref 1) 2 [aR P,gp w,iR (y::ys)]=hb c cp b l N (bits+1) (.ref 1) [aR (P++ [⟨y::ys,w- cp*v⟩])]:=by
 have mx:decide (P.length+1<maxRow)=true:=decide_eq_true (by unfold maxRow;omega);have d0:decide ((0:Int)>0)=false:=rfl;have w3:IntKind.i64.wrap (bits+1)=bits+1:=wrap64 (by omega) (by omega);rw[show aR (P++ [⟨y::ys,w- cp*v⟩])= .cells false true 149 (P.map plW++ [.agg [.sl true 1 ((y::ys).map zx),.int .i64 (w- cp*v)]]) by unfold aR;rw[List.map_append];rfl];simp only[jk,List.map_cons,zx]at e⊢;unfold hc hb;rw[zq];simp -implicitDefEqProofs only[go_sem,simprocAttr,hk,e,mx,w2,d0,w3]
theorem fin(bits:Int)(x:Pl)(P:List Pl)(hN:decide (bits<N)=false)(hP:(x::P).length≤300)(ho:∀p∈x::P,p.ok):hb c cp b l N bits (.ref 1) [aR (x::P)]=some (.ret (.tup [.sl (!(qq x P).i.isEmpty) 1 ((qq x P).i.map zx),.int .i64 (qq x P).w,.int .i64 0]),[],0,[]):=by
 have e:=k57 x P ho (by omega);unfold aR hb;generalize hg:(x::P).map plW=Q at e⊢;simp only[uk]at e;rw[zq];simp -implicitDefEqProofs only[go_sem,simprocAttr,hN,e]
def wAt(l:List Sd)(i:Int):Int:=match l[i.toNat]? with|some s=>s.w|none=>0
def wsum(l:List Sd):List Int→Int
 | []=>0
 |i::r=>r.foldl (fun a j=>a+wAt l j) (wAt l i)
def uw(c:Int×Int)(l:List Sd):List Int→Int
 | []=>wayO c l []
 |y::ys=>(vl (wayO c l) (y::ys)).2
def zj(c:Int×Int)(cp:Int)(l:List Sd)(I:List Int):Pl:=⟨I,wsum l I- cp*uw c l I⟩
def subs:Nat→List (List Int)
 |0=> []
 |1=> [[0]]
 |2=> [[0],[1],[0,1]]
 |_=> [[0],[1],[0,1],[2],[0,2],[1,2],[0,1,2]]
theorem zgi(c:Int×Int)(l:List Sd)(o:List Int):0≤wayO c l o:=zo1 ..
theorem yre{l:List Sd}(hl:OkS l)(i:Int):uh (zaa l i):=by
 unfold zaa;split
 ·rename_i s h
  exact hl.p s (List.mem_of_getElem? h)
 ·unfold uh;decide
theorem ym2{c:Int×Int}{l:List Sd}(hc:uh c)(hl:OkS l)(o:List Int)(ho:o.length≤3):wayO c l o≤16000:=by
 have h:=zo2 c 4000 (fun a b ha hb=>zhv a b ha hb) hc (o.map (zaa l)) c (fun p hp=>by
  obtain⟨i,_,rfl⟩:=List.mem_map.1 hp;exact yre hl i) hc
 rw[List.length_map]at h;unfold wayO;omega
theorem zo7(c:Int×Int)(l:List Sd)(I:List Int):∃o:List Int,o.Perm I∧uw c l I=wayO c l o:=by
 cases I with
 |nil=>exact⟨[],List.Perm.refl _,rfl⟩
 |cons y ys=>
  have h:=zpk (wayO c l) (zgi c l) (y::ys);exact⟨_,h.2.1,h.1⟩
theorem yd{c:Int×Int}{l:List Sd}(hc:uh c)(hl:OkS l)(I:List Int)(hI:I.length≤3):0≤uw c l I∧uw c l I≤16000:=by
 obtain⟨o,h1,h2⟩:=zo7 c l I;have:=zgi c l o;have:=ym2 hc hl o (by rw[h1.length_eq];exact hI);omega
theorem yz{cp v w:Int}(hcp:0≤cp∧cp≤1000)(hv:0≤v∧v≤16000)(hw:0≤w∧w≤8000000):IntKind.i64.wrap (w- IntKind.i64.wrap (cp*v))=w- cp*v:=by
 have h1:cp*v≤1000*16000:=Int.mul_le_mul hcp.2 hv.2 hv.1 (by decide);have h2:0≤cp*v:=Int.mul_nonneg hcp.1 hv.1;rw[wrap64 (n:=cp*v) (by omega) (by omega),wrap64 (by omega) (by omega)]
theorem zbw(c:Int×Int)(l:List Sd):wayO c l []=0:=by
 show jf c c=0;unfold jf zdp;omega
theorem zer(c:Int×Int)(cp:Int)(l:List Sd):(⟨[],-(cp*wayO c l [])⟩:Pl)=zj c cp l []:=by
 show(⟨[],-(cp*wayO c l [])⟩:Pl)=⟨[],0- cp*wayO c l []⟩;rw[Int.zero_sub]
theorem planO_ok{c:Int×Int}{cp:Int}{l:List Sd}(I:List Int)(h:I.length≤3):(zj c cp l I).ok:=⟨by show I.length<1000;omega⟩
theorem zhx{c:Int×Int}{cp:Int}(hc:OkC c 0 cp)(b:Bool)(l:List Sd)(hl:OkS l)(N:Int)(hN:IntKind.i64.wrap (1*2^min l.length 64)=N)(B:Bool)(L:List V)(w:Int)
  (h:hb c cp b l N 0 (.sl false 0 []) []=some (.ret (.tup [.sl B 1 L,.int .i64 w,.int .i64 0]),[],0,[])):
  (zu T).call 21 [jk c 0 cp,.sl b 5 (l.map qi)] [] 0 []=some (.tup [.sl B 1 L,.int .i64 w,.int .i64 0],[],0,[]):=by
 have hlen:=hl.len;have e1:=k55 c.1 c.2 0 cp;rw[hc.ck]at e1;have e2:=k56 b l hl;have f0:qo [0,0]=0:=rfl;have t1:decide (0≤(l.length:Int))=true:=decide_eq_true (by omega);unfold hb at h;simp only[jk];rw[xan];simp -implicitDefEqProofs only[go_sem,simprocAttr,e1,e2,zb8,f0,t1,hN,h]
theorem xcw{c:Int×Int}{cp:Int}(hc:OkC c 0 cp)(b:Bool)(hl:OkS []):
  hb c cp b [] 1 0 (.sl false 0 []) []=some (.ret (.tup [.sl (!(qq (zj c cp [] []) ((subs 0).map (zj c cp []))).i.isEmpty) 1 ((qq (zj c cp [] []) ((subs 0).map (zj c cp []))).i.map zx),.int .i64 (qq (zj c cp [] []) ((subs 0).map (zj c cp []))).w,.int .i64 0]),[],0,[]):=by
 have okp:∀p∈zj c cp [] []::(subs 0).map (zj c cp []),p.ok:=by
  intro p hp;simp only[subs,List.map_nil,List.mem_cons,List.not_mem_nil,or_false]at hp;subst hp;exact planO_ok _ (by decide)
 refine(zh0 c cp b [] 1 rfl).trans ?_;refine(ez c cp b [] 1 0 rfl hl hc (by have:=zbw c [];rw[this,Int.mul_zero];rfl)).trans ?_;rw[zer];exact fin c cp b [] 1 1 (zj c cp [] []) ((subs 0).map (zj c cp [])) rfl (by simp[subs]) okp
theorem xcv{c:Int×Int}{cp:Int}(hc:OkC c 0 cp)(b:Bool)(s0:Sd)(hl:OkS [s0])(t0:s0.t=0):
  hb c cp b [s0] 2 0 (.sl false 0 []) []=some (.ret (.tup [.sl (!(qq (zj c cp [s0] []) ((subs 1).map (zj c cp [s0]))).i.isEmpty) 1 ((qq (zj c cp [s0] []) ((subs 1).map (zj c cp [s0]))).i.map zx),.int .i64 (qq (zj c cp [s0] []) ((subs 1).map (zj c cp [s0]))).w,.int .i64 0]),[],0,[]):=by
 have h0:=hl.w s0 (by simp)
 have okp:∀p∈zj c cp [s0] []::(subs 1).map (zj c cp [s0]),p.ok:=by
  intro p hp;simp only[subs,List.map_cons,List.map_nil,List.mem_cons,List.not_mem_nil,or_false]at hp;rcases hp with rfl|rfl<;>exact planO_ok _ (by decide)
 refine(zh0 c cp b [s0] 2 rfl).trans ?_;refine(z_0 c cp b [s0] 2 s0 rfl rfl t0).trans ?_;refine(ez c cp b [s0] 2 1 rfl hl hc (by have:=zbw c [s0];rw[this,Int.mul_zero];rfl)).trans ?_;rw[zer];refine(in_1 c cp b [s0] 2 1 ([zj c cp [s0] []]) rfl).trans ?_;refine(zbx c cp b [s0] 2 1 ([zj c cp [s0] []]) s0 rfl rfl t0 (by decide) h0).trans ?_;have b1:=yd hc.c hl [0] (by decide);refine(er c cp b [s0] 2 1 (s0.w) (uw c [s0] [0]) 1 rfl ([zj c cp [s0] []]) (by simp) 0 [] _ (by omega) (gm hc b [s0] hl 0 [] (by simp) (by unfold uu;simp)) (yz hc.p b1 (by omega))).trans ?_;exact fin c cp b [s0] 2 2 (zj c cp [s0] []) ((subs 1).map (zj c cp [s0])) rfl (by simp[subs]) okp
theorem xcu{c:Int×Int}{cp:Int}(hc:OkC c 0 cp)(b:Bool)(s0 s1:Sd)(hl:OkS [s0,s1])(t0:s0.t=0)(t1:s1.t=0):
  hb c cp b [s0,s1] 4 0 (.sl false 0 []) []=some (.ret (.tup [.sl (!(qq (zj c cp [s0,s1] []) ((subs 2).map (zj c cp [s0,s1]))).i.isEmpty) 1 ((qq (zj c cp [s0,s1] []) ((subs 2).map (zj c cp [s0,s1]))).i.map zx),.int .i64 (qq (zj c cp [s0,s1] []) ((subs 2).map (zj c cp [s0,s1]))).w,.int .i64 0]),[],0,[]):=by
 have h0:=hl.w s0 (by simp);have h1:=hl.w s1 (by simp)
 have okp:∀p∈zj c cp [s0,s1] []::(subs 2).map (zj c cp [s0,s1]),p.ok:=by
  intro p hp;simp only[subs,List.map_cons,List.map_nil,List.mem_cons,List.not_mem_nil,or_false]at hp;rcases hp with rfl|rfl|rfl|rfl<;>exact planO_ok _ (by decide)
 refine(zh0 c cp b [s0,s1] 4 rfl).trans ?_;refine(z_0 c cp b [s0,s1] 4 s0 rfl rfl t0).trans ?_;refine(z_1 c cp b [s0,s1] 4 s1 rfl rfl t1).trans ?_;refine(ez c cp b [s0,s1] 4 2 rfl hl hc (by have:=zbw c [s0,s1];rw[this,Int.mul_zero];rfl)).trans ?_;rw[zer];refine(in_1 c cp b [s0,s1] 4 1 ([zj c cp [s0,s1] []]) rfl).trans ?_;refine(zbx c cp b [s0,s1] 4 1 ([zj c cp [s0,s1] []]) s0 rfl rfl t0 (by decide) h0).trans ?_;refine(zkc c cp b [s0,s1] 4 1 (s0.w) [0] ([zj c cp [s0,s1] []]) s1 rfl rfl t1 (by decide)).trans ?_;have b1:=yd hc.c hl [0] (by decide);refine(er c cp b [s0,s1] 4 1 (s0.w) (uw c [s0,s1] [0]) 2 rfl ([zj c cp [s0,s1] []]) (by simp) 0 [] _ (by omega) (gm hc b [s0,s1] hl 0 [] (by simp) (by unfold uu;simp)) (yz hc.p b1 (by omega))).trans ?_;refine(in_1 c cp b [s0,s1] 4 2 ([zj c cp [s0,s1] []]++ [zj c cp [s0,s1] [0]]) rfl).trans ?_;refine(zgj c cp b [s0,s1] 4 2 ([zj c cp [s0,s1] []]++ [zj c cp [s0,s1] [0]]) s0 rfl rfl t0 (by decide)).trans ?_;refine(zj8 c cp b [s0,s1] 4 2 ([zj c cp [s0,s1] []]++ [zj c cp [s0,s1] [0]]) s1 rfl rfl t1 (by decide) h1).trans ?_;have b2:=yd hc.c hl [1] (by decide);refine(er c cp b [s0,s1] 4 2 (s1.w) (uw c [s0,s1] [1]) 2 rfl ([zj c cp [s0,s1] []]++ [zj c cp [s0,s1] [0]]) (by simp) 1 [] _ (by omega) (gm hc b [s0,s1] hl 1 [] (by simp) (by unfold uu;simp)) (yz hc.p b2 (by omega))).trans ?_;refine(in_1 c cp b [s0,s1] 4 3 ([zj c cp [s0,s1] []]++ [zj c cp [s0,s1] [0]]++ [zj c cp [s0,s1] [1]]) rfl).trans ?_;refine(zbx c cp b [s0,s1] 4 3 ([zj c cp [s0,s1] []]++ [zj c cp [s0,s1] [0]]++ [zj c cp [s0,s1] [1]]) s0 rfl rfl t0 (by decide) h0).trans ?_;refine(zj7 c cp b [s0,s1] 4 3 (s0.w) [0] (by simp) ([zj c cp [s0,s1] []]++ [zj c cp [s0,s1] [0]]++ [zj c cp [s0,s1] [1]]) s1 rfl rfl t1 (by decide) (by omega)).trans ?_;have b3:=yd hc.c hl [0,1] (by decide);refine(er c cp b [s0,s1] 4 3 (s0.w+s1.w) (uw c [s0,s1] [0,1]) 2 rfl ([zj c cp [s0,s1] []]++ [zj c cp [s0,s1] [0]]++ [zj c cp [s0,s1] [1]]) (by simp) 0 [1] _ (by omega) (gm hc b [s0,s1] hl 0 [1] (by simp) (by unfold uu;simp)) (yz hc.p b3 (by omega))).trans ?_;exact fin c cp b [s0,s1] 4 4 (zj c cp [s0,s1] []) ((subs 2).map (zj c cp [s0,s1])) rfl (by simp[subs]) okp
theorem xct{c:Int×Int}{cp:Int}(hc:OkC c 0 cp)(b:Bool)(s0 s1 s2:Sd)(hl:OkS [s0,s1,s2])(t0:s0.t=0)(t1:s1.t=0)(t2:s2.t=0):
  hb c cp b [s0,s1,s2] 8 0 (.sl false 0 []) []=some (.ret (.tup [.sl (!(qq (zj c cp [s0,s1,s2] []) ((subs 3).map (zj c cp [s0,s1,s2]))).i.isEmpty) 1 ((qq (zj c cp [s0,s1,s2] []) ((subs 3).map (zj c cp [s0,s1,s2]))).i.map zx),.int .i64 (qq (zj c cp [s0,s1,s2] []) ((subs 3).map (zj c cp [s0,s1,s2]))).w,.int .i64 0]),[],0,[]):=by
 have h0:=hl.w s0 (by simp);have h1:=hl.w s1 (by simp);have h2:=hl.w s2 (by simp)
 have okp:∀p∈zj c cp [s0,s1,s2] []::(subs 3).map (zj c cp [s0,s1,s2]),p.ok:=by
  intro p hp;simp only[subs,List.map_cons,List.map_nil,List.mem_cons,List.not_mem_nil,or_false]at hp;rcases hp with rfl|rfl|rfl|rfl|rfl|rfl|rfl|rfl<;>exact planO_ok _ (by decide)
 refine(zh0 c cp b [s0,s1,s2] 8 rfl).trans ?_;refine(z_0 c cp b [s0,s1,s2] 8 s0 rfl rfl t0).trans ?_;refine(z_1 c cp b [s0,s1,s2] 8 s1 rfl rfl t1).trans ?_;refine(z_2 c cp b [s0,s1,s2] 8 s2 rfl rfl t2).trans ?_;refine(ez c cp b [s0,s1,s2] 8 3 rfl hl hc (by have:=zbw c [s0,s1,s2];rw[this,Int.mul_zero];rfl)).trans ?_;rw[zer];refine(in_1 c cp b [s0,s1,s2] 8 1 ([zj c cp [s0,s1,s2] []]) rfl).trans ?_;refine(zbx c cp b [s0,s1,s2] 8 1 ([zj c cp [s0,s1,s2] []]) s0 rfl rfl t0 (by decide) h0).trans ?_;refine(zkc c cp b [s0,s1,s2] 8 1 (s0.w) [0] ([zj c cp [s0,s1,s2] []]) s1 rfl rfl t1 (by decide)).trans ?_;refine(zkb c cp b [s0,s1,s2] 8 1 (s0.w) [0] ([zj c cp [s0,s1,s2] []]) s2 rfl rfl t2 (by decide)).trans ?_;have b1:=yd hc.c hl [0] (by decide);refine(er c cp b [s0,s1,s2] 8 1 (s0.w) (uw c [s0,s1,s2] [0]) 3 rfl ([zj c cp [s0,s1,s2] []]) (by simp) 0 [] _ (by omega) (gm hc b [s0,s1,s2] hl 0 [] (by simp) (by unfold uu;simp)) (yz hc.p b1 (by omega))).trans ?_;refine(in_1 c cp b [s0,s1,s2] 8 2 ([zj c cp [s0,s1,s2] []]++ [zj c cp [s0,s1,s2] [0]]) rfl).trans ?_;refine(zgj c cp b [s0,s1,s2] 8 2 ([zj c cp [s0,s1,s2] []]++ [zj c cp [s0,s1,s2] [0]]) s0 rfl rfl t0 (by decide)).trans ?_;refine(zj8 c cp b [s0,s1,s2] 8 2 ([zj c cp [s0,s1,s2] []]++ [zj c cp [s0,s1,s2] [0]]) s1 rfl rfl t1 (by decide) h1).trans ?_;refine(zkb c cp b [s0,s1,s2] 8 2 (s1.w) [1] ([zj c cp [s0,s1,s2] []]++ [zj c cp [s0,s1,s2] [0]]) s2 rfl rfl t2 (by decide)).trans ?_;have b2:=yd hc.c hl [1] (by decide);refine(er c cp b [s0,s1,s2] 8 2 (s1.w) (uw c [s0,s1,s2] [1]) 3 rfl ([zj c cp [s0,s1,s2] []]++ [zj c cp [s0,s1,s2] [0]]) (by simp) 1 [] _ (by omega) (gm hc b [s0,s1,s2] hl 1 [] (by simp) (by unfold uu;simp)) (yz hc.p b2 (by omega))).trans ?_;refine(in_1 c cp b [s0,s1,s2] 8 3 ([zj c cp [s0,s1,s2] []]++ [zj c cp [s0,s1,s2] [0]]++ [zj c cp [s0,s1,s2] [1]]) rfl).trans ?_;refine(zbx c cp b [s0,s1,s2] 8 3 ([zj c cp [s0,s1,s2] []]++ [zj c cp [s0,s1,s2] [0]]++ [zj c cp [s0,s1,s2] [1]]) s0 rfl rfl t0 (by decide) h0).trans ?_;refine(zj7 c cp b [s0,s1,s2] 8 3 (s0.w) [0] (by simp) ([zj c cp [s0,s1,s2] []]++ [zj c cp [s0,s1,s2] [0]]++ [zj c cp [s0,s1,s2] [1]]) s1 rfl rfl t1 (by decide) (by omega)).trans ?_;refine(zkb c cp b [s0,s1,s2] 8 3 (s0.w+s1.w) [0,1] ([zj c cp [s0,s1,s2] []]++ [zj c cp [s0,s1,s2] [0]]++ [zj c cp [s0,s1,s2] [1]]) s2 rfl rfl t2 (by decide)).trans ?_;have b3:=yd hc.c hl [0,1] (by decide);refine(er c cp b [s0,s1,s2] 8 3 (s0.w+s1.w) (uw c [s0,s1,s2] [0,1]) 3 rfl ([zj c cp [s0,s1,s2] []]++ [zj c cp [s0,s1,s2] [0]]++ [zj c cp [s0,s1,s2] [1]]) (by simp) 0 [1] _ (by omega) (gm hc b [s0,s1,s2] hl 0 [1] (by simp) (by unfold uu;simp)) (yz hc.p b3 (by omega))).trans ?_;refine(in_1 c cp b [s0,s1,s2] 8 4 ([zj c cp [s0,s1,s2] []]++ [zj c cp [s0,s1,s2] [0]]++ [zj c cp [s0,s1,s2] [1]]++ [zj c cp [s0,s1,s2] [0,1]]) rfl).trans ?_;refine(zgj c cp b [s0,s1,s2] 8 4 ([zj c cp [s0,s1,s2] []]++ [zj c cp [s0,s1,s2] [0]]++ [zj c cp [s0,s1,s2] [1]]++ [zj c cp [s0,s1,s2] [0,1]]) s0 rfl rfl t0 (by decide)).trans ?_;refine(ym8 c cp b [s0,s1,s2] 8 4 ([zj c cp [s0,s1,s2] []]++ [zj c cp [s0,s1,s2] [0]]++ [zj c cp [s0,s1,s2] [1]]++ [zj c cp [s0,s1,s2] [0,1]]) s1 rfl rfl t1 (by decide)).trans ?_;refine(ym3 c cp b [s0,s1,s2] 8 4 ([zj c cp [s0,s1,s2] []]++ [zj c cp [s0,s1,s2] [0]]++ [zj c cp [s0,s1,s2] [1]]++ [zj c cp [s0,s1,s2] [0,1]]) s2 rfl rfl t2 (by decide) h2).trans ?_;have b4:=yd hc.c hl [2] (by decide);refine(er c cp b [s0,s1,s2] 8 4 (s2.w) (uw c [s0,s1,s2] [2]) 3 rfl ([zj c cp [s0,s1,s2] []]++ [zj c cp [s0,s1,s2] [0]]++ [zj c cp [s0,s1,s2] [1]]++ [zj c cp [s0,s1,s2] [0,1]]) (by simp) 2 [] _ (by omega) (gm hc b [s0,s1,s2] hl 2 [] (by simp) (by unfold uu;simp)) (yz hc.p b4 (by omega))).trans ?_;refine(in_1 c cp b [s0,s1,s2] 8 5 ([zj c cp [s0,s1,s2] []]++ [zj c cp [s0,s1,s2] [0]]++ [zj c cp [s0,s1,s2] [1]]++ [zj c cp [s0,s1,s2] [0,1]]++ [zj c cp [s0,s1,s2] [2]]) rfl).trans ?_;refine(zbx c cp b [s0,s1,s2] 8 5 ([zj c cp [s0,s1,s2] []]++ [zj c cp [s0,s1,s2] [0]]++ [zj c cp [s0,s1,s2] [1]]++ [zj c cp [s0,s1,s2] [0,1]]++ [zj c cp [s0,s1,s2] [2]]) s0 rfl rfl t0 (by decide) h0).trans ?_;refine(zkc c cp b [s0,s1,s2] 8 5 (s0.w) [0] ([zj c cp [s0,s1,s2] []]++ [zj c cp [s0,s1,s2] [0]]++ [zj c cp [s0,s1,s2] [1]]++ [zj c cp [s0,s1,s2] [0,1]]++ [zj c cp [s0,s1,s2] [2]]) s1 rfl rfl t1 (by decide)).trans ?_;refine(zj6 c cp b [s0,s1,s2] 8 5 (s0.w) [0] (by simp) ([zj c cp [s0,s1,s2] []]++ [zj c cp [s0,s1,s2] [0]]++ [zj c cp [s0,s1,s2] [1]]++ [zj c cp [s0,s1,s2] [0,1]]++ [zj c cp [s0,s1,s2] [2]]) s2 rfl rfl t2 (by decide) (by omega)).trans ?_;have b5:=yd hc.c hl [0,2] (by decide);refine(er c cp b [s0,s1,s2] 8 5 (s0.w+s2.w) (uw c [s0,s1,s2] [0,2]) 3 rfl ([zj c cp [s0,s1,s2] []]++ [zj c cp [s0,s1,s2] [0]]++ [zj c cp [s0,s1,s2] [1]]++ [zj c cp [s0,s1,s2] [0,1]]++ [zj c cp [s0,s1,s2] [2]]) (by simp) 0 [2] _ (by omega) (gm hc b [s0,s1,s2] hl 0 [2] (by simp) (by unfold uu;simp)) (yz hc.p b5 (by omega))).trans ?_;refine(in_1 c cp b [s0,s1,s2] 8 6 ([zj c cp [s0,s1,s2] []]++ [zj c cp [s0,s1,s2] [0]]++ [zj c cp [s0,s1,s2] [1]]++ [zj c cp [s0,s1,s2] [0,1]]++ [zj c cp [s0,s1,s2] [2]]++ [zj c cp [s0,s1,s2] [0,2]]) rfl).trans ?_;refine(zgj c cp b [s0,s1,s2] 8 6 ([zj c cp [s0,s1,s2] []]++ [zj c cp [s0,s1,s2] [0]]++ [zj c cp [s0,s1,s2] [1]]++ [zj c cp [s0,s1,s2] [0,1]]++ [zj c cp [s0,s1,s2] [2]]++ [zj c cp [s0,s1,s2] [0,2]]) s0 rfl rfl t0 (by decide)).trans ?_;refine(zj8 c cp b [s0,s1,s2] 8 6 ([zj c cp [s0,s1,s2] []]++ [zj c cp [s0,s1,s2] [0]]++ [zj c cp [s0,s1,s2] [1]]++ [zj c cp [s0,s1,s2] [0,1]]++ [zj c cp [s0,s1,s2] [2]]++ [zj c cp [s0,s1,s2] [0,2]]) s1 rfl rfl t1 (by decide) h1).trans ?_;refine(zj6 c cp b [s0,s1,s2] 8 6 (s1.w) [1] (by simp) ([zj c cp [s0,s1,s2] []]++ [zj c cp [s0,s1,s2] [0]]++ [zj c cp [s0,s1,s2] [1]]++ [zj c cp [s0,s1,s2] [0,1]]++ [zj c cp [s0,s1,s2] [2]]++ [zj c cp [s0,s1,s2] [0,2]]) s2 rfl rfl t2 (by decide) (by omega)).trans ?_;have b6:=yd hc.c hl [1,2] (by decide);refine(er c cp b [s0,s1,s2] 8 6 (s1.w+s2.w) (uw c [s0,s1,s2] [1,2]) 3 rfl ([zj c cp [s0,s1,s2] []]++ [zj c cp [s0,s1,s2] [0]]++ [zj c cp [s0,s1,s2] [1]]++ [zj c cp [s0,s1,s2] [0,1]]++ [zj c cp [s0,s1,s2] [2]]++ [zj c cp [s0,s1,s2] [0,2]]) (by simp) 1 [2] _ (by omega) (gm hc b [s0,s1,s2] hl 1 [2] (by simp) (by unfold uu;simp)) (yz hc.p b6 (by omega))).trans ?_;refine(in_1 c cp b [s0,s1,s2] 8 7 ([zj c cp [s0,s1,s2] []]++ [zj c cp [s0,s1,s2] [0]]++ [zj c cp [s0,s1,s2] [1]]++ [zj c cp [s0,s1,s2] [0,1]]++ [zj c cp [s0,s1,s2] [2]]++ [zj c cp [s0,s1,s2] [0,2]]++ [zj c cp [s0,s1,s2] [1,2]]) rfl).trans ?_;refine(zbx c cp b [s0,s1,s2] 8 7 ([zj c cp [s0,s1,s2] []]++ [zj c cp [s0,s1,s2] [0]]++ [zj c cp [s0,s1,s2] [1]]++ [zj c cp [s0,s1,s2] [0,1]]++ [zj c cp [s0,s1,s2] [2]]++ [zj c cp [s0,s1,s2] [0,2]]++ [zj c cp [s0,s1,s2] [1,2]]) s0 rfl rfl t0 (by decide) h0).trans ?_;refine(zj7 c cp b [s0,s1,s2] 8 7 (s0.w) [0] (by simp) ([zj c cp [s0,s1,s2] []]++ [zj c cp [s0,s1,s2] [0]]++ [zj c cp [s0,s1,s2] [1]]++ [zj c cp [s0,s1,s2] [0,1]]++ [zj c cp [s0,s1,s2] [2]]++ [zj c cp [s0,s1,s2] [0,2]]++ [zj c cp [s0,s1,s2] [1,2]]) s1 rfl rfl t1 (by decide) (by omega)).trans ?_;refine(zj6 c cp b [s0,s1,s2] 8 7 (s0.w+s1.w) [0,1] (by simp) ([zj c cp [s0,s1,s2] []]++ [zj c cp [s0,s1,s2] [0]]++ [zj c cp [s0,s1,s2] [1]]++ [zj c cp [s0,s1,s2] [0,1]]++ [zj c cp [s0,s1,s2] [2]]++ [zj c cp [s0,s1,s2] [0,2]]++ [zj c cp [s0,s1,s2] [1,2]]) s2 rfl rfl t2 (by decide) (by omega)).trans ?_;have b7:=yd hc.c hl [0,1,2] (by decide);refine(er c cp b [s0,s1,s2] 8 7 (s0.w+s1.w+s2.w) (uw c [s0,s1,s2] [0,1,2]) 3 rfl ([zj c cp [s0,s1,s2] []]++ [zj c cp [s0,s1,s2] [0]]++ [zj c cp [s0,s1,s2] [1]]++ [zj c cp [s0,s1,s2] [0,1]]++ [zj c cp [s0,s1,s2] [2]]++ [zj c cp [s0,s1,s2] [0,2]]++ [zj c cp [s0,s1,s2] [1,2]]) (by simp) 0 [1,2] _ (by omega) (gm hc b [s0,s1,s2] hl 0 [1,2] (by simp) (by unfold uu;simp)) (yz hc.p b7 (by omega))).trans ?_;exact fin c cp b [s0,s1,s2] 8 8 (zj c cp [s0,s1,s2] []) ((subs 3).map (zj c cp [s0,s1,s2])) rfl (by simp[subs]) okp
theorem yrm{c:Int×Int}{cp:Int}{l:List Sd}(n:Nat):∃I,I∈ []::subs n∧0≤(zj c cp l I).w∧qq (zj c cp l []) ((subs n).map (zj c cp l))=zj c cp l I:=by
 have h:=yle ((subs n).map (zj c cp l)) (zj c cp l []);have hw:=ylc ((subs n).map (zj c cp l)) (zj c cp l []);have h0:(zj c cp l []).w=0:=by rw[←zer,zbw];simp
 rw[←List.map_cons (f:=zj c cp l)]at h;obtain⟨I,hI,he⟩:=List.mem_map.1 h;exact⟨I,hI,by rw[he,←h0];exact hw,he.symm⟩
theorem k21{c:Int×Int}{cp:Int}(hc:OkC c 0 cp)(b:Bool)(l:List Sd)(hl:OkS l)(h3:l.length≤3)(ht:∀s∈l,s.t=0):
  ∃I,I∈ []::subs l.length∧0≤(zj c cp l I).w∧(zu T).call 21 [jk c 0 cp,.sl b 5 (l.map qi)] [] 0 []=some (.tup [.sl (!I.isEmpty) 1 (I.map zx),.int .i64 (zj c cp l I).w,.int .i64 0],[],0,[]):=by
 obtain⟨I,h1,h2,h4⟩:=yrm (c:=c) (cp:=cp) (l:=l) l.length;refine⟨I,h1,h2,?_⟩
 match l,h3 with
 | [],_=>exact zhx hc b _ hl 1 rfl _ _ _ ((xcw hc b hl).trans (by have h5:qq (zj c cp [] []) ((subs 0).map (zj c cp []))=zj c cp [] I:=h4;rw[h5];rfl))
 | [s0],_=>exact zhx hc b _ hl 2 rfl _ _ _ ((xcv hc b s0 hl (ht _ (by simp))).trans (by have h5:qq (zj c cp [s0] []) ((subs 1).map (zj c cp [s0]))=zj c cp [s0] I:=h4;rw[h5];rfl))
 | [s0,s1],_=>exact zhx hc b _ hl 4 rfl _ _ _ ((xcu hc b s0 s1 hl (ht _ (by simp)) (ht _ (by simp))).trans (by have h5:qq (zj c cp [s0,s1] []) ((subs 2).map (zj c cp [s0,s1]))=zj c cp [s0,s1] I:=h4;rw[h5];rfl))
 | [s0,s1,s2],_=>exact zhx hc b _ hl 8 rfl _ _ _ ((xct hc b s0 s1 s2 hl (ht _ (by simp)) (ht _ (by simp)) (ht _ (by simp))).trans (by have h5:qq (zj c cp [s0,s1,s2] []) ((subs 3).map (zj c cp [s0,s1,s2]))=zj c cp [s0,s1,s2] I:=h4;rw[h5];rfl))
 |_::_::_::_::_,h=>simp at h
variable (be:Bool) (es:List Int) (Y:Cx)
theorem ywd(h:es.length<1∨3<es.length):(zu T).call 4 [zy be es Y] [] 0 []=some (.bool true,[],0,[]):=by
 rw[yjt];rcases h with h|h
 ·have h1:decide ((es.length:Int)<1)=true:=decide_eq_true (by omega)
  simp (maxSteps:=2000000) -implicitDefEqProofs only[go_sem,simprocAttr,zy,xx,w8,i8,h1,uo]
 ·have h1:decide ((es.length:Int)<1)=false:=decide_eq_false (by omega)
  have h2:decide ((3:Int)<es.length)=true:=decide_eq_true (by omega);have h2':decide ((es.length:Int)>3)=true:=decide_eq_true (by omega);simp (maxSteps:=2000000) -implicitDefEqProofs only[go_sem,simprocAttr,zy,xx,w8,i8,h1,h2,h2',uo]
theorem zmm(x:Rq)(rp:List Int):(nd x rp).length≤7:=by
 unfold nd;rw[List.length_map];exact Nat.le_trans (List.length_filter_le ..) (by simp)
abbrev nvV(N:List Int):V:= .sl (!(N.map zx).isEmpty) 1 (N.map zx)
def jn(N:List Int)(R7:List V)(bM:Bool)(Nm:List (List UInt8))(i:Int)(V13:V)(R:zw):Option Out:=
 (zu T).loop false [.code (.loop zjb),.inBlock 0,.code (r4_32.seq (r4_33.seq (r4_34.seq ((r4_35.seq (.cond (.tmp 267) (r4_36.seq .ret) .skip)).seq (r4_37.seq (r4_38.seq ((r4_39.seq (.block 4 (.loop zf0))).seq ((r4_48.seq (.block 6 (.loop zd5))).seq (r4_54.seq ((r4_55.seq (.cond (.tmp 352) (r4_56.seq .ret) .skip)).seq (r4_57.seq (r4_58.seq ((r4_59.seq (.cond (.tmp 384) (r4_60.seq .ret) .skip)).seq (((r4_61.seq (.cond (.tmp 387) (r4_62.seq ((r4_63.seq (.cond (.tmp 414) (r4_64.seq .ret) .skip)))) .skip))).seq (r4_65.seq .ret)))))))))))))))]
  ⟨4,416,0,[(1,.ptr 0 0 0),(4,nvV N),(7,.sl true 1 R7),(9,.sl bM 1 (Nm.map gv)),(13,V13),(143,nvV N),(144,.int .i64 N.length),(145,.int .i64 i)],
   bx be es Y::R,0,[]⟩
theorem ywf(x:Rq)(hm:mkR es Y=x)(hx:x.ok)(hn:0≤Y.n∧Y.n≤255)(ho:0≤Y.o∧Y.o≤255)(R7:List V)(hR:((List.range 7).map fun k=>V.sl true 1 (((List.range x.m).map fun j=>x.lost [] k j).map zx))=R7)(r:V)(h:jn be es Y (nd x []) R7 (!(nd x []).isEmpty) (ndN x []) 0 (.sl false 0 []) []=some (.ret r,[],0,[])):
  (zu T).call 4 [zy be es Y] [] 0 []=some (r,[],0,[]):=by
 have hlen:es.length=x.m:=by rw[←hm];rfl
 have e14:=k14 be es Y 0 false [] (fun h=>absurd rfl h) (by simp) (hm▸hx) hn ho;rw[hm]at e14;have e15:=zmy hx [];have e16:=ypv hx [];have e17:=xc6 hx [];have e18:=yrg hx [];have e20:=xcz hx []
 have e19:(zu T).call 19 [.sl (!(nd x []).isEmpty) 1 ((nd x []).map zx),nvV (nd x [])] [] 0 []=some (.bool true,[],0,[]):=by
  have h:=c89 (!(nd x []).isEmpty) (!((nd x []).map zx).isEmpty) (nd x []) (nd x []) (by have:=zmm x [];omega);rw[decide_eq_true rfl]at h;exact h
 have h1:decide ((es.length:Int)<1)=false:=decide_eq_false (by have:=hx.m1;omega);have h2':decide ((es.length:Int)>3)=false:=decide_eq_false (by have:=hx.m3;omega);have hnm:(((ndN x []).length:Int) !=((nd x []).length:Int))=false:=by simp[ndN]
 have hR7:((R7.length:Int) !=7)=false:=by rw[←hR];simp
 rw[hR]at e16;unfold jn at h;simp only[bx,zy,xx,w8,i8,xq,List.map_nil,nvV]at e14 e15 e16 e17 e18 e19 e20 h;generalize (x.pk []).v.map rwV=L1 at*;generalize (x.pk []).c.map czV=L2 at*;rw[yjt];simp (maxSteps:=2000000) -implicitDefEqProofs only[go_sem,simprocAttr,zy,xx,w8,i8,h1,h2',e14,e15,e16,e17,e18,e19,e20,hnm,hR7,h]
variable (be:Bool) (es:List Int) (Y:Cx)
theorem yq5(hlen:((es.length:Nat):Int)=1)(N:List Int)(R7:List V)(bM:Bool)(Nm:List (List UInt8))(i:Nat)(hi:N[i]? =some 0)(hil:decide ((i:Int)<N.length)=true)(hi8:i<8)(hm:Nm[i]? =some [99,97,117,115,101,48])(ss:List Sd)(hss:ss.length≤8)
  (e0:Int)(he0:0≤e0∧e0≤65535)(hl0:0≤Y.l00∧Y.l00≤65535)(hs0:es[0]? =some e0)(hR:R7[0]? =some (.sl true 1 [.int .i64 (min e0 Y.l00)]))(hq0: -128≤Y.p00∧Y.p00≤127)(hq1: -128≤Y.p01∧Y.p01≤127):
  jn be es Y N R7 bM Nm i (.sl false 0 []) []=jn be es Y N R7 bM Nm (i+1:Nat) (.ref 1) [.cells false true 50 (List.map qi [(⟨[99,97,117,115,101,48],(Y.p00,Y.p01),(min e0 Y.l00),0⟩:Sd)])]:=by
 unfold jn;have hp0:=zd (a:=Y.p00) (by omega);have hp1:=zd (a:=Y.p01) (by omega);have wi:IntKind.i64.wrap ((i:Int)+1)=((i+1:Nat):Int):=by rw[zd (by omega)];rfl
 have mx:decide (ss.length+1<maxRow)=true:=decide_eq_true (by unfold maxRow;omega);have f1:decide (0≤(i:Int)∧(i:Int)<N.length)=true:=decide_eq_true (by have:=(List.getElem?_eq_some_iff.1 hi).1;omega);have f2:decide (0≤(i:Int)∧(i:Int)<Nm.length)=true:=decide_eq_true (by have:=(List.getElem?_eq_some_iff.1 hm).1;omega);have f3:decide ((0:Int)<R7.length)=true:=decide_eq_true (by have:=(List.getElem?_eq_some_iff.1 hR).1;omega);have f4:decide ((0:Int)≤0∧(0:Int)<R7.length)=true:=decide_eq_true (by have:=(List.getElem?_eq_some_iff.1 hR).1;omega);have mx1:decide (1<maxRow)=true:=by decide
 have ms:decide (6<xg)=true:=by decide
 have u0:=zd (a:=e0) (by omega);have v0:=zd (a:=Y.l00) (by omega);have x0:IntKind.i64.wrap 1=1:=rfl;have y0:IntKind.i64.wrap (0+(min e0 Y.l00))=(min e0 Y.l00):=(by rw[Int.zero_add];exact zd (by omega));rw[zq];simp -implicitDefEqProofs only[go_sem,simprocAttr,zy,xx,w8,i8,hlen,hil,hi,hm,yx,wi,hR,ms,f1,f2,f3,f4];rw[zq];simp -implicitDefEqProofs only[go_sem,simprocAttr,zy,xx,w8,i8,hlen,wi,hR,u0,v0,x0,y0,hs0,bne_self_eq_false,hp0,hp1,f1,f2,f3,f4];rw[zq];simp -implicitDefEqProofs only[go_sem,simprocAttr,zy,xx,w8,i8,hlen,wi,hR,u0,v0,x0,y0,hs0,mx,mx1,hp0,hp1,hm,f1,f2,f3,f4]
 try simp only[List.map_append,List.map_cons,List.map_nil]
 try rfl
theorem yq4(hlen:((es.length:Nat):Int)=1)(N:List Int)(R7:List V)(bM:Bool)(Nm:List (List UInt8))(i:Nat)(hi:N[i]? =some 0)(hil:decide ((i:Int)<N.length)=true)(hi8:i<8)(hm:Nm[i]? =some [99,97,117,115,101,48])(ss:List Sd)(hss:ss.length≤8)
  (e0:Int)(he0:0≤e0∧e0≤65535)(hl0:0≤Y.l00∧Y.l00≤65535)(hs0:es[0]? =some e0)(hR:R7[0]? =some (.sl true 1 [.int .i64 (min e0 Y.l00)]))(hq0: -128≤Y.p00∧Y.p00≤127)(hq1: -128≤Y.p01∧Y.p01≤127):
  jn be es Y N R7 bM Nm i (.ref 1) [.cells false true 50 (ss.map qi)]=jn be es Y N R7 bM Nm (i+1:Nat) (.ref 1) [.cells false true 50 ((ss++ [(⟨[99,97,117,115,101,48],(Y.p00,Y.p01),(min e0 Y.l00),0⟩:Sd)]).map qi)]:=by
 unfold jn;have hp0:=zd (a:=Y.p00) (by omega);have hp1:=zd (a:=Y.p01) (by omega);have wi:IntKind.i64.wrap ((i:Int)+1)=((i+1:Nat):Int):=by rw[zd (by omega)];rfl
 have mx:decide (ss.length+1<maxRow)=true:=decide_eq_true (by unfold maxRow;omega);have f1:decide (0≤(i:Int)∧(i:Int)<N.length)=true:=decide_eq_true (by have:=(List.getElem?_eq_some_iff.1 hi).1;omega);have f2:decide (0≤(i:Int)∧(i:Int)<Nm.length)=true:=decide_eq_true (by have:=(List.getElem?_eq_some_iff.1 hm).1;omega);have f3:decide ((0:Int)<R7.length)=true:=decide_eq_true (by have:=(List.getElem?_eq_some_iff.1 hR).1;omega);have f4:decide ((0:Int)≤0∧(0:Int)<R7.length)=true:=decide_eq_true (by have:=(List.getElem?_eq_some_iff.1 hR).1;omega);have mx1:decide (1<maxRow)=true:=by decide
 have ms:decide (6<xg)=true:=by decide
 have u0:=zd (a:=e0) (by omega);have v0:=zd (a:=Y.l00) (by omega);have x0:IntKind.i64.wrap 1=1:=rfl;have y0:IntKind.i64.wrap (0+(min e0 Y.l00))=(min e0 Y.l00):=(by rw[Int.zero_add];exact zd (by omega));rw[zq];simp -implicitDefEqProofs only[go_sem,simprocAttr,zy,xx,w8,i8,hlen,hil,hi,hm,yx,wi,hR,ms,f1,f2,f3,f4];rw[zq];simp -implicitDefEqProofs only[go_sem,simprocAttr,zy,xx,w8,i8,hlen,wi,hR,u0,v0,x0,y0,hs0,bne_self_eq_false,hp0,hp1,f1,f2,f3,f4];rw[zq];simp -implicitDefEqProofs only[go_sem,simprocAttr,zy,xx,w8,i8,hlen,wi,hR,u0,v0,x0,y0,hs0,mx,mx1,hp0,hp1,hm,f1,f2,f3,f4]
 try simp only[List.map_append,List.map_cons,List.map_nil]
 try rfl
theorem yq3(hlen:((es.length:Nat):Int)=1)(N:List Int)(R7:List V)(bM:Bool)(Nm:List (List UInt8))(i:Nat)(hi:N[i]? =some 1)(hil:decide ((i:Int)<N.length)=true)(hi8:i<8)(hm:Nm[i]? =some [99,97,117,115,101,49])(ss:List Sd)(hss:ss.length≤8)
  (e0:Int)(he0:0≤e0∧e0≤65535)(hl0:0≤Y.l10∧Y.l10≤65535)(hs0:es[0]? =some e0)(hR:R7[1]? =some (.sl true 1 [.int .i64 (min e0 Y.l10)]))(hq0: -128≤Y.p10∧Y.p10≤127)(hq1: -128≤Y.p11∧Y.p11≤127):
  jn be es Y N R7 bM Nm i (.sl false 0 []) []=jn be es Y N R7 bM Nm (i+1:Nat) (.ref 1) [.cells false true 50 (List.map qi [(⟨[99,97,117,115,101,49],(Y.p10,Y.p11),(min e0 Y.l10),0⟩:Sd)])]:=by
 unfold jn;have hp0:=zd (a:=Y.p10) (by omega);have hp1:=zd (a:=Y.p11) (by omega);have wi:IntKind.i64.wrap ((i:Int)+1)=((i+1:Nat):Int):=by rw[zd (by omega)];rfl
 have mx:decide (ss.length+1<maxRow)=true:=decide_eq_true (by unfold maxRow;omega);have f1:decide (0≤(i:Int)∧(i:Int)<N.length)=true:=decide_eq_true (by have:=(List.getElem?_eq_some_iff.1 hi).1;omega);have f2:decide (0≤(i:Int)∧(i:Int)<Nm.length)=true:=decide_eq_true (by have:=(List.getElem?_eq_some_iff.1 hm).1;omega);have f3:decide ((1:Int)<R7.length)=true:=decide_eq_true (by have:=(List.getElem?_eq_some_iff.1 hR).1;omega);have f4:decide ((0:Int)≤1∧(1:Int)<R7.length)=true:=decide_eq_true (by have:=(List.getElem?_eq_some_iff.1 hR).1;omega);have mx1:decide (1<maxRow)=true:=by decide
 have ms:decide (6<xg)=true:=by decide
 have u0:=zd (a:=e0) (by omega);have v0:=zd (a:=Y.l10) (by omega);have x0:IntKind.i64.wrap 1=1:=rfl;have y0:IntKind.i64.wrap (0+(min e0 Y.l10))=(min e0 Y.l10):=(by rw[Int.zero_add];exact zd (by omega));rw[zq];simp -implicitDefEqProofs only[go_sem,simprocAttr,zy,xx,w8,i8,hlen,hil,hi,hm,jo,wi,hR,ms,f1,f2,f3,f4];rw[zq];simp -implicitDefEqProofs only[go_sem,simprocAttr,zy,xx,w8,i8,hlen,wi,hR,u0,v0,x0,y0,hs0,bne_self_eq_false,hp0,hp1,f1,f2,f3,f4];rw[zq];simp -implicitDefEqProofs only[go_sem,simprocAttr,zy,xx,w8,i8,hlen,wi,hR,u0,v0,x0,y0,hs0,mx,mx1,hp0,hp1,hm,f1,f2,f3,f4]
 try simp only[List.map_append,List.map_cons,List.map_nil]
 try rfl
theorem yq2(hlen:((es.length:Nat):Int)=1)(N:List Int)(R7:List V)(bM:Bool)(Nm:List (List UInt8))(i:Nat)(hi:N[i]? =some 1)(hil:decide ((i:Int)<N.length)=true)(hi8:i<8)(hm:Nm[i]? =some [99,97,117,115,101,49])(ss:List Sd)(hss:ss.length≤8)
  (e0:Int)(he0:0≤e0∧e0≤65535)(hl0:0≤Y.l10∧Y.l10≤65535)(hs0:es[0]? =some e0)(hR:R7[1]? =some (.sl true 1 [.int .i64 (min e0 Y.l10)]))(hq0: -128≤Y.p10∧Y.p10≤127)(hq1: -128≤Y.p11∧Y.p11≤127):
  jn be es Y N R7 bM Nm i (.ref 1) [.cells false true 50 (ss.map qi)]=jn be es Y N R7 bM Nm (i+1:Nat) (.ref 1) [.cells false true 50 ((ss++ [(⟨[99,97,117,115,101,49],(Y.p10,Y.p11),(min e0 Y.l10),0⟩:Sd)]).map qi)]:=by
 unfold jn;have hp0:=zd (a:=Y.p10) (by omega);have hp1:=zd (a:=Y.p11) (by omega);have wi:IntKind.i64.wrap ((i:Int)+1)=((i+1:Nat):Int):=by rw[zd (by omega)];rfl
 have mx:decide (ss.length+1<maxRow)=true:=decide_eq_true (by unfold maxRow;omega);have f1:decide (0≤(i:Int)∧(i:Int)<N.length)=true:=decide_eq_true (by have:=(List.getElem?_eq_some_iff.1 hi).1;omega);have f2:decide (0≤(i:Int)∧(i:Int)<Nm.length)=true:=decide_eq_true (by have:=(List.getElem?_eq_some_iff.1 hm).1;omega);have f3:decide ((1:Int)<R7.length)=true:=decide_eq_true (by have:=(List.getElem?_eq_some_iff.1 hR).1;omega);have f4:decide ((0:Int)≤1∧(1:Int)<R7.length)=true:=decide_eq_true (by have:=(List.getElem?_eq_some_iff.1 hR).1;omega);have mx1:decide (1<maxRow)=true:=by decide
 have ms:decide (6<xg)=true:=by decide
 have u0:=zd (a:=e0) (by omega);have v0:=zd (a:=Y.l10) (by omega);have x0:IntKind.i64.wrap 1=1:=rfl;have y0:IntKind.i64.wrap (0+(min e0 Y.l10))=(min e0 Y.l10):=(by rw[Int.zero_add];exact zd (by omega));rw[zq];simp -implicitDefEqProofs only[go_sem,simprocAttr,zy,xx,w8,i8,hlen,hil,hi,hm,jo,wi,hR,ms,f1,f2,f3,f4];rw[zq];simp -implicitDefEqProofs only[go_sem,simprocAttr,zy,xx,w8,i8,hlen,wi,hR,u0,v0,x0,y0,hs0,bne_self_eq_false,hp0,hp1,f1,f2,f3,f4];rw[zq];simp -implicitDefEqProofs only[go_sem,simprocAttr,zy,xx,w8,i8,hlen,wi,hR,u0,v0,x0,y0,hs0,mx,mx1,hp0,hp1,hm,f1,f2,f3,f4]
 try simp only[List.map_append,List.map_cons,List.map_nil]
 try rfl
theorem yq1(hlen:((es.length:Nat):Int)=1)(N:List Int)(R7:List V)(bM:Bool)(Nm:List (List UInt8))(i:Nat)(hi:N[i]? =some 2)(hil:decide ((i:Int)<N.length)=true)(hi8:i<8)(hm:Nm[i]? =some [99,97,117,115,101,50])(ss:List Sd)(hss:ss.length≤8)
  (e0:Int)(he0:0≤e0∧e0≤65535)(hl0:0≤Y.l20∧Y.l20≤65535)(hs0:es[0]? =some e0)(hR:R7[2]? =some (.sl true 1 [.int .i64 (min e0 Y.l20)]))(hq0: -128≤Y.p20∧Y.p20≤127)(hq1: -128≤Y.p21∧Y.p21≤127):
  jn be es Y N R7 bM Nm i (.sl false 0 []) []=jn be es Y N R7 bM Nm (i+1:Nat) (.ref 1) [.cells false true 50 (List.map qi [(⟨[99,97,117,115,101,50],(Y.p20,Y.p21),(min e0 Y.l20),0⟩:Sd)])]:=by
 unfold jn;have hp0:=zd (a:=Y.p20) (by omega);have hp1:=zd (a:=Y.p21) (by omega);have wi:IntKind.i64.wrap ((i:Int)+1)=((i+1:Nat):Int):=by rw[zd (by omega)];rfl
 have mx:decide (ss.length+1<maxRow)=true:=decide_eq_true (by unfold maxRow;omega);have f1:decide (0≤(i:Int)∧(i:Int)<N.length)=true:=decide_eq_true (by have:=(List.getElem?_eq_some_iff.1 hi).1;omega);have f2:decide (0≤(i:Int)∧(i:Int)<Nm.length)=true:=decide_eq_true (by have:=(List.getElem?_eq_some_iff.1 hm).1;omega);have f3:decide ((2:Int)<R7.length)=true:=decide_eq_true (by have:=(List.getElem?_eq_some_iff.1 hR).1;omega);have f4:decide ((0:Int)≤2∧(2:Int)<R7.length)=true:=decide_eq_true (by have:=(List.getElem?_eq_some_iff.1 hR).1;omega);have mx1:decide (1<maxRow)=true:=by decide
 have ms:decide (6<xg)=true:=by decide
 have u0:=zd (a:=e0) (by omega);have v0:=zd (a:=Y.l20) (by omega);have x0:IntKind.i64.wrap 1=1:=rfl;have y0:IntKind.i64.wrap (0+(min e0 Y.l20))=(min e0 Y.l20):=(by rw[Int.zero_add];exact zd (by omega));rw[zq];simp -implicitDefEqProofs only[go_sem,simprocAttr,zy,xx,w8,i8,hlen,hil,hi,hm,je,wi,hR,ms,f1,f2,f3,f4];rw[zq];simp -implicitDefEqProofs only[go_sem,simprocAttr,zy,xx,w8,i8,hlen,wi,hR,u0,v0,x0,y0,hs0,bne_self_eq_false,hp0,hp1,f1,f2,f3,f4];rw[zq];simp -implicitDefEqProofs only[go_sem,simprocAttr,zy,xx,w8,i8,hlen,wi,hR,u0,v0,x0,y0,hs0,mx,mx1,hp0,hp1,hm,f1,f2,f3,f4]
 try simp only[List.map_append,List.map_cons,List.map_nil]
 try rfl
theorem yq0(hlen:((es.length:Nat):Int)=1)(N:List Int)(R7:List V)(bM:Bool)(Nm:List (List UInt8))(i:Nat)(hi:N[i]? =some 2)(hil:decide ((i:Int)<N.length)=true)(hi8:i<8)(hm:Nm[i]? =some [99,97,117,115,101,50])(ss:List Sd)(hss:ss.length≤8)
  (e0:Int)(he0:0≤e0∧e0≤65535)(hl0:0≤Y.l20∧Y.l20≤65535)(hs0:es[0]? =some e0)(hR:R7[2]? =some (.sl true 1 [.int .i64 (min e0 Y.l20)]))(hq0: -128≤Y.p20∧Y.p20≤127)(hq1: -128≤Y.p21∧Y.p21≤127):
  jn be es Y N R7 bM Nm i (.ref 1) [.cells false true 50 (ss.map qi)]=jn be es Y N R7 bM Nm (i+1:Nat) (.ref 1) [.cells false true 50 ((ss++ [(⟨[99,97,117,115,101,50],(Y.p20,Y.p21),(min e0 Y.l20),0⟩:Sd)]).map qi)]:=by
 unfold jn;have hp0:=zd (a:=Y.p20) (by omega);have hp1:=zd (a:=Y.p21) (by omega);have wi:IntKind.i64.wrap ((i:Int)+1)=((i+1:Nat):Int):=by rw[zd (by omega)];rfl
 have mx:decide (ss.length+1<maxRow)=true:=decide_eq_true (by unfold maxRow;omega);have f1:decide (0≤(i:Int)∧(i:Int)<N.length)=true:=decide_eq_true (by have:=(List.getElem?_eq_some_iff.1 hi).1;omega);have f2:decide (0≤(i:Int)∧(i:Int)<Nm.length)=true:=decide_eq_true (by have:=(List.getElem?_eq_some_iff.1 hm).1;omega);have f3:decide ((2:Int)<R7.length)=true:=decide_eq_true (by have:=(List.getElem?_eq_some_iff.1 hR).1;omega);have f4:decide ((0:Int)≤2∧(2:Int)<R7.length)=true:=decide_eq_true (by have:=(List.getElem?_eq_some_iff.1 hR).1;omega);have mx1:decide (1<maxRow)=true:=by decide
 have ms:decide (6<xg)=true:=by decide
 have u0:=zd (a:=e0) (by omega);have v0:=zd (a:=Y.l20) (by omega);have x0:IntKind.i64.wrap 1=1:=rfl;have y0:IntKind.i64.wrap (0+(min e0 Y.l20))=(min e0 Y.l20):=(by rw[Int.zero_add];exact zd (by omega));rw[zq];simp -implicitDefEqProofs only[go_sem,simprocAttr,zy,xx,w8,i8,hlen,hil,hi,hm,je,wi,hR,ms,f1,f2,f3,f4];rw[zq];simp -implicitDefEqProofs only[go_sem,simprocAttr,zy,xx,w8,i8,hlen,wi,hR,u0,v0,x0,y0,hs0,bne_self_eq_false,hp0,hp1,f1,f2,f3,f4];rw[zq];simp -implicitDefEqProofs only[go_sem,simprocAttr,zy,xx,w8,i8,hlen,wi,hR,u0,v0,x0,y0,hs0,mx,mx1,hp0,hp1,hm,f1,f2,f3,f4]
 try simp only[List.map_append,List.map_cons,List.map_nil]
 try rfl
variable (be:Bool) (es:List Int) (Y:Cx)
theorem yqz(hlen:((es.length:Nat):Int)=2)(N:List Int)(R7:List V)(bM:Bool)(Nm:List (List UInt8))(i:Nat)(hi:N[i]? =some 0)(hil:decide ((i:Int)<N.length)=true)(hi8:i<8)(hm:Nm[i]? =some [99,97,117,115,101,48])(ss:List Sd)(hss:ss.length≤8)
  (e0:Int)(he0:0≤e0∧e0≤65535)(hl0:0≤Y.l00∧Y.l00≤65535)(hs0:es[0]? =some e0)(e1:Int)(he1:0≤e1∧e1≤65535)(hl1:0≤Y.l01∧Y.l01≤65535)(hs1:es[1]? =some e1)(hR:R7[0]? =some (.sl true 1 [.int .i64 (min e0 Y.l00),.int .i64 (min e1 Y.l01)]))(hq0: -128≤Y.p00∧Y.p00≤127)(hq1: -128≤Y.p01∧Y.p01≤127):
  jn be es Y N R7 bM Nm i (.sl false 0 []) []=jn be es Y N R7 bM Nm (i+1:Nat) (.ref 1) [.cells false true 50 (List.map qi [(⟨[99,97,117,115,101,48],(Y.p00,Y.p01),((min e0 Y.l00)+(min e1 Y.l01)),0⟩:Sd)])]:=by
 unfold jn;have hp0:=zd (a:=Y.p00) (by omega);have hp1:=zd (a:=Y.p01) (by omega);have wi:IntKind.i64.wrap ((i:Int)+1)=((i+1:Nat):Int):=by rw[zd (by omega)];rfl
 have mx:decide (ss.length+1<maxRow)=true:=decide_eq_true (by unfold maxRow;omega);have f1:decide (0≤(i:Int)∧(i:Int)<N.length)=true:=decide_eq_true (by have:=(List.getElem?_eq_some_iff.1 hi).1;omega);have f2:decide (0≤(i:Int)∧(i:Int)<Nm.length)=true:=decide_eq_true (by have:=(List.getElem?_eq_some_iff.1 hm).1;omega);have f3:decide ((0:Int)<R7.length)=true:=decide_eq_true (by have:=(List.getElem?_eq_some_iff.1 hR).1;omega);have f4:decide ((0:Int)≤0∧(0:Int)<R7.length)=true:=decide_eq_true (by have:=(List.getElem?_eq_some_iff.1 hR).1;omega);have mx1:decide (1<maxRow)=true:=by decide
 have ms:decide (6<xg)=true:=by decide
 have u0:=zd (a:=e0) (by omega);have v0:=zd (a:=Y.l00) (by omega);have x0:IntKind.i64.wrap 1=1:=rfl;have u1:=zd (a:=e1) (by omega);have v1:=zd (a:=Y.l01) (by omega);have x1:IntKind.i64.wrap 2=2:=rfl;have y0:IntKind.i64.wrap (0+(min e0 Y.l00))=(min e0 Y.l00):=(by rw[Int.zero_add];exact zd (by omega));have y1:=zd (a:=(min e0 Y.l00)+(min e1 Y.l01)) (by omega);rw[zq];simp -implicitDefEqProofs only[go_sem,simprocAttr,zy,xx,w8,i8,hlen,hil,hi,hm,yx,wi,hR,ms,f1,f2,f3,f4];rw[zq];simp -implicitDefEqProofs only[go_sem,simprocAttr,zy,xx,w8,i8,hlen,wi,hR,u0,v0,x0,y0,u1,v1,x1,y1,hs0,hs1,bne_self_eq_false,hp0,hp1,f1,f2,f3,f4];rw[zq];simp -implicitDefEqProofs only[go_sem,simprocAttr,zy,xx,w8,i8,hlen,wi,hR,u0,v0,x0,y0,u1,v1,x1,y1,hs0,hs1,bne_self_eq_false,hp0,hp1,f1,f2,f3,f4];rw[zq];simp -implicitDefEqProofs only[go_sem,simprocAttr,zy,xx,w8,i8,hlen,wi,hR,u0,v0,x0,y0,u1,v1,x1,y1,hs0,hs1,mx,mx1,hp0,hp1,hm,f1,f2,f3,f4]
 try simp only[List.map_append,List.map_cons,List.map_nil]
 try rfl
theorem yqy(hlen:((es.length:Nat):Int)=2)(N:List Int)(R7:List V)(bM:Bool)(Nm:List (List UInt8))(i:Nat)(hi:N[i]? =some 0)(hil:decide ((i:Int)<N.length)=true)(hi8:i<8)(hm:Nm[i]? =some [99,97,117,115,101,48])(ss:List Sd)(hss:ss.length≤8)
  (e0:Int)(he0:0≤e0∧e0≤65535)(hl0:0≤Y.l00∧Y.l00≤65535)(hs0:es[0]? =some e0)(e1:Int)(he1:0≤e1∧e1≤65535)(hl1:0≤Y.l01∧Y.l01≤65535)(hs1:es[1]? =some e1)(hR:R7[0]? =some (.sl true 1 [.int .i64 (min e0 Y.l00),.int .i64 (min e1 Y.l01)]))(hq0: -128≤Y.p00∧Y.p00≤127)(hq1: -128≤Y.p01∧Y.p01≤127):
  jn be es Y N R7 bM Nm i (.ref 1) [.cells false true 50 (ss.map qi)]=jn be es Y N R7 bM Nm (i+1:Nat) (.ref 1) [.cells false true 50 ((ss++ [(⟨[99,97,117,115,101,48],(Y.p00,Y.p01),((min e0 Y.l00)+(min e1 Y.l01)),0⟩:Sd)]).map qi)]:=by
 unfold jn;have hp0:=zd (a:=Y.p00) (by omega);have hp1:=zd (a:=Y.p01) (by omega);have wi:IntKind.i64.wrap ((i:Int)+1)=((i+1:Nat):Int):=by rw[zd (by omega)];rfl
 have mx:decide (ss.length+1<maxRow)=true:=decide_eq_true (by unfold maxRow;omega);have f1:decide (0≤(i:Int)∧(i:Int)<N.length)=true:=decide_eq_true (by have:=(List.getElem?_eq_some_iff.1 hi).1;omega);have f2:decide (0≤(i:Int)∧(i:Int)<Nm.length)=true:=decide_eq_true (by have:=(List.getElem?_eq_some_iff.1 hm).1;omega);have f3:decide ((0:Int)<R7.length)=true:=decide_eq_true (by have:=(List.getElem?_eq_some_iff.1 hR).1;omega);have f4:decide ((0:Int)≤0∧(0:Int)<R7.length)=true:=decide_eq_true (by have:=(List.getElem?_eq_some_iff.1 hR).1;omega);have mx1:decide (1<maxRow)=true:=by decide
 have ms:decide (6<xg)=true:=by decide
 have u0:=zd (a:=e0) (by omega);have v0:=zd (a:=Y.l00) (by omega);have x0:IntKind.i64.wrap 1=1:=rfl;have u1:=zd (a:=e1) (by omega);have v1:=zd (a:=Y.l01) (by omega);have x1:IntKind.i64.wrap 2=2:=rfl;have y0:IntKind.i64.wrap (0+(min e0 Y.l00))=(min e0 Y.l00):=(by rw[Int.zero_add];exact zd (by omega));have y1:=zd (a:=(min e0 Y.l00)+(min e1 Y.l01)) (by omega);rw[zq];simp -implicitDefEqProofs only[go_sem,simprocAttr,zy,xx,w8,i8,hlen,hil,hi,hm,yx,wi,hR,ms,f1,f2,f3,f4];rw[zq];simp -implicitDefEqProofs only[go_sem,simprocAttr,zy,xx,w8,i8,hlen,wi,hR,u0,v0,x0,y0,u1,v1,x1,y1,hs0,hs1,bne_self_eq_false,hp0,hp1,f1,f2,f3,f4];rw[zq];simp -implicitDefEqProofs only[go_sem,simprocAttr,zy,xx,w8,i8,hlen,wi,hR,u0,v0,x0,y0,u1,v1,x1,y1,hs0,hs1,bne_self_eq_false,hp0,hp1,f1,f2,f3,f4];rw[zq];simp -implicitDefEqProofs only[go_sem,simprocAttr,zy,xx,w8,i8,hlen,wi,hR,u0,v0,x0,y0,u1,v1,x1,y1,hs0,hs1,mx,mx1,hp0,hp1,hm,f1,f2,f3,f4]
 try simp only[List.map_append,List.map_cons,List.map_nil]
 try rfl
theorem yqx(hlen:((es.length:Nat):Int)=2)(N:List Int)(R7:List V)(bM:Bool)(Nm:List (List UInt8))(i:Nat)(hi:N[i]? =some 1)(hil:decide ((i:Int)<N.length)=true)(hi8:i<8)(hm:Nm[i]? =some [99,97,117,115,101,49])(ss:List Sd)(hss:ss.length≤8)
  (e0:Int)(he0:0≤e0∧e0≤65535)(hl0:0≤Y.l10∧Y.l10≤65535)(hs0:es[0]? =some e0)(e1:Int)(he1:0≤e1∧e1≤65535)(hl1:0≤Y.l11∧Y.l11≤65535)(hs1:es[1]? =some e1)(hR:R7[1]? =some (.sl true 1 [.int .i64 (min e0 Y.l10),.int .i64 (min e1 Y.l11)]))(hq0: -128≤Y.p10∧Y.p10≤127)(hq1: -128≤Y.p11∧Y.p11≤127):
  jn be es Y N R7 bM Nm i (.sl false 0 []) []=jn be es Y N R7 bM Nm (i+1:Nat) (.ref 1) [.cells false true 50 (List.map qi [(⟨[99,97,117,115,101,49],(Y.p10,Y.p11),((min e0 Y.l10)+(min e1 Y.l11)),0⟩:Sd)])]:=by
 unfold jn;have hp0:=zd (a:=Y.p10) (by omega);have hp1:=zd (a:=Y.p11) (by omega);have wi:IntKind.i64.wrap ((i:Int)+1)=((i+1:Nat):Int):=by rw[zd (by omega)];rfl
 have mx:decide (ss.length+1<maxRow)=true:=decide_eq_true (by unfold maxRow;omega);have f1:decide (0≤(i:Int)∧(i:Int)<N.length)=true:=decide_eq_true (by have:=(List.getElem?_eq_some_iff.1 hi).1;omega);have f2:decide (0≤(i:Int)∧(i:Int)<Nm.length)=true:=decide_eq_true (by have:=(List.getElem?_eq_some_iff.1 hm).1;omega);have f3:decide ((1:Int)<R7.length)=true:=decide_eq_true (by have:=(List.getElem?_eq_some_iff.1 hR).1;omega);have f4:decide ((0:Int)≤1∧(1:Int)<R7.length)=true:=decide_eq_true (by have:=(List.getElem?_eq_some_iff.1 hR).1;omega);have mx1:decide (1<maxRow)=true:=by decide
 have ms:decide (6<xg)=true:=by decide
 have u0:=zd (a:=e0) (by omega);have v0:=zd (a:=Y.l10) (by omega);have x0:IntKind.i64.wrap 1=1:=rfl;have u1:=zd (a:=e1) (by omega);have v1:=zd (a:=Y.l11) (by omega);have x1:IntKind.i64.wrap 2=2:=rfl;have y0:IntKind.i64.wrap (0+(min e0 Y.l10))=(min e0 Y.l10):=(by rw[Int.zero_add];exact zd (by omega));have y1:=zd (a:=(min e0 Y.l10)+(min e1 Y.l11)) (by omega);rw[zq];simp -implicitDefEqProofs only[go_sem,simprocAttr,zy,xx,w8,i8,hlen,hil,hi,hm,jo,wi,hR,ms,f1,f2,f3,f4];rw[zq];simp -implicitDefEqProofs only[go_sem,simprocAttr,zy,xx,w8,i8,hlen,wi,hR,u0,v0,x0,y0,u1,v1,x1,y1,hs0,hs1,bne_self_eq_false,hp0,hp1,f1,f2,f3,f4];rw[zq];simp -implicitDefEqProofs only[go_sem,simprocAttr,zy,xx,w8,i8,hlen,wi,hR,u0,v0,x0,y0,u1,v1,x1,y1,hs0,hs1,bne_self_eq_false,hp0,hp1,f1,f2,f3,f4];rw[zq];simp -implicitDefEqProofs only[go_sem,simprocAttr,zy,xx,w8,i8,hlen,wi,hR,u0,v0,x0,y0,u1,v1,x1,y1,hs0,hs1,mx,mx1,hp0,hp1,hm,f1,f2,f3,f4]
 try simp only[List.map_append,List.map_cons,List.map_nil]
 try rfl
theorem yqw(hlen:((es.length:Nat):Int)=2)(N:List Int)(R7:List V)(bM:Bool)(Nm:List (List UInt8))(i:Nat)(hi:N[i]? =some 1)(hil:decide ((i:Int)<N.length)=true)(hi8:i<8)(hm:Nm[i]? =some [99,97,117,115,101,49])(ss:List Sd)(hss:ss.length≤8)
  (e0:Int)(he0:0≤e0∧e0≤65535)(hl0:0≤Y.l10∧Y.l10≤65535)(hs0:es[0]? =some e0)(e1:Int)(he1:0≤e1∧e1≤65535)(hl1:0≤Y.l11∧Y.l11≤65535)(hs1:es[1]? =some e1)(hR:R7[1]? =some (.sl true 1 [.int .i64 (min e0 Y.l10),.int .i64 (min e1 Y.l11)]))(hq0: -128≤Y.p10∧Y.p10≤127)(hq1: -128≤Y.p11∧Y.p11≤127):
  jn be es Y N R7 bM Nm i (.ref 1) [.cells false true 50 (ss.map qi)]=jn be es Y N R7 bM Nm (i+1:Nat) (.ref 1) [.cells false true 50 ((ss++ [(⟨[99,97,117,115,101,49],(Y.p10,Y.p11),((min e0 Y.l10)+(min e1 Y.l11)),0⟩:Sd)]).map qi)]:=by
 unfold jn;have hp0:=zd (a:=Y.p10) (by omega);have hp1:=zd (a:=Y.p11) (by omega);have wi:IntKind.i64.wrap ((i:Int)+1)=((i+1:Nat):Int):=by rw[zd (by omega)];rfl
 have mx:decide (ss.length+1<maxRow)=true:=decide_eq_true (by unfold maxRow;omega);have f1:decide (0≤(i:Int)∧(i:Int)<N.length)=true:=decide_eq_true (by have:=(List.getElem?_eq_some_iff.1 hi).1;omega);have f2:decide (0≤(i:Int)∧(i:Int)<Nm.length)=true:=decide_eq_true (by have:=(List.getElem?_eq_some_iff.1 hm).1;omega);have f3:decide ((1:Int)<R7.length)=true:=decide_eq_true (by have:=(List.getElem?_eq_some_iff.1 hR).1;omega);have f4:decide ((0:Int)≤1∧(1:Int)<R7.length)=true:=decide_eq_true (by have:=(List.getElem?_eq_some_iff.1 hR).1;omega);have mx1:decide (1<maxRow)=true:=by decide
 have ms:decide (6<xg)=true:=by decide
 have u0:=zd (a:=e0) (by omega);have v0:=zd (a:=Y.l10) (by omega);have x0:IntKind.i64.wrap 1=1:=rfl;have u1:=zd (a:=e1) (by omega);have v1:=zd (a:=Y.l11) (by omega);have x1:IntKind.i64.wrap 2=2:=rfl;have y0:IntKind.i64.wrap (0+(min e0 Y.l10))=(min e0 Y.l10):=(by rw[Int.zero_add];exact zd (by omega));have y1:=zd (a:=(min e0 Y.l10)+(min e1 Y.l11)) (by omega);rw[zq];simp -implicitDefEqProofs only[go_sem,simprocAttr,zy,xx,w8,i8,hlen,hil,hi,hm,jo,wi,hR,ms,f1,f2,f3,f4];rw[zq];simp -implicitDefEqProofs only[go_sem,simprocAttr,zy,xx,w8,i8,hlen,wi,hR,u0,v0,x0,y0,u1,v1,x1,y1,hs0,hs1,bne_self_eq_false,hp0,hp1,f1,f2,f3,f4];rw[zq];simp -implicitDefEqProofs only[go_sem,simprocAttr,zy,xx,w8,i8,hlen,wi,hR,u0,v0,x0,y0,u1,v1,x1,y1,hs0,hs1,bne_self_eq_false,hp0,hp1,f1,f2,f3,f4];rw[zq];simp -implicitDefEqProofs only[go_sem,simprocAttr,zy,xx,w8,i8,hlen,wi,hR,u0,v0,x0,y0,u1,v1,x1,y1,hs0,hs1,mx,mx1,hp0,hp1,hm,f1,f2,f3,f4]
 try simp only[List.map_append,List.map_cons,List.map_nil]
 try rfl
theorem yqv(hlen:((es.length:Nat):Int)=2)(N:List Int)(R7:List V)(bM:Bool)(Nm:List (List UInt8))(i:Nat)(hi:N[i]? =some 2)(hil:decide ((i:Int)<N.length)=true)(hi8:i<8)(hm:Nm[i]? =some [99,97,117,115,101,50])(ss:List Sd)(hss:ss.length≤8)
  (e0:Int)(he0:0≤e0∧e0≤65535)(hl0:0≤Y.l20∧Y.l20≤65535)(hs0:es[0]? =some e0)(e1:Int)(he1:0≤e1∧e1≤65535)(hl1:0≤Y.l21∧Y.l21≤65535)(hs1:es[1]? =some e1)(hR:R7[2]? =some (.sl true 1 [.int .i64 (min e0 Y.l20),.int .i64 (min e1 Y.l21)]))(hq0: -128≤Y.p20∧Y.p20≤127)(hq1: -128≤Y.p21∧Y.p21≤127):
  jn be es Y N R7 bM Nm i (.sl false 0 []) []=jn be es Y N R7 bM Nm (i+1:Nat) (.ref 1) [.cells false true 50 (List.map qi [(⟨[99,97,117,115,101,50],(Y.p20,Y.p21),((min e0 Y.l20)+(min e1 Y.l21)),0⟩:Sd)])]:=by
 unfold jn;have hp0:=zd (a:=Y.p20) (by omega);have hp1:=zd (a:=Y.p21) (by omega);have wi:IntKind.i64.wrap ((i:Int)+1)=((i+1:Nat):Int):=by rw[zd (by omega)];rfl
 have mx:decide (ss.length+1<maxRow)=true:=decide_eq_true (by unfold maxRow;omega);have f1:decide (0≤(i:Int)∧(i:Int)<N.length)=true:=decide_eq_true (by have:=(List.getElem?_eq_some_iff.1 hi).1;omega);have f2:decide (0≤(i:Int)∧(i:Int)<Nm.length)=true:=decide_eq_true (by have:=(List.getElem?_eq_some_iff.1 hm).1;omega);have f3:decide ((2:Int)<R7.length)=true:=decide_eq_true (by have:=(List.getElem?_eq_some_iff.1 hR).1;omega);have f4:decide ((0:Int)≤2∧(2:Int)<R7.length)=true:=decide_eq_true (by have:=(List.getElem?_eq_some_iff.1 hR).1;omega);have mx1:decide (1<maxRow)=true:=by decide
 have ms:decide (6<xg)=true:=by decide
 have u0:=zd (a:=e0) (by omega);have v0:=zd (a:=Y.l20) (by omega);have x0:IntKind.i64.wrap 1=1:=rfl;have u1:=zd (a:=e1) (by omega);have v1:=zd (a:=Y.l21) (by omega);have x1:IntKind.i64.wrap 2=2:=rfl;have y0:IntKind.i64.wrap (0+(min e0 Y.l20))=(min e0 Y.l20):=(by rw[Int.zero_add];exact zd (by omega));have y1:=zd (a:=(min e0 Y.l20)+(min e1 Y.l21)) (by omega);rw[zq];simp -implicitDefEqProofs only[go_sem,simprocAttr,zy,xx,w8,i8,hlen,hil,hi,hm,je,wi,hR,ms,f1,f2,f3,f4];rw[zq];simp -implicitDefEqProofs only[go_sem,simprocAttr,zy,xx,w8,i8,hlen,wi,hR,u0,v0,x0,y0,u1,v1,x1,y1,hs0,hs1,bne_self_eq_false,hp0,hp1,f1,f2,f3,f4];rw[zq];simp -implicitDefEqProofs only[go_sem,simprocAttr,zy,xx,w8,i8,hlen,wi,hR,u0,v0,x0,y0,u1,v1,x1,y1,hs0,hs1,bne_self_eq_false,hp0,hp1,f1,f2,f3,f4];rw[zq];simp -implicitDefEqProofs only[go_sem,simprocAttr,zy,xx,w8,i8,hlen,wi,hR,u0,v0,x0,y0,u1,v1,x1,y1,hs0,hs1,mx,mx1,hp0,hp1,hm,f1,f2,f3,f4]
 try simp only[List.map_append,List.map_cons,List.map_nil]
 try rfl
theorem yqu(hlen:((es.length:Nat):Int)=2)(N:List Int)(R7:List V)(bM:Bool)(Nm:List (List UInt8))(i:Nat)(hi:N[i]? =some 2)(hil:decide ((i:Int)<N.length)=true)(hi8:i<8)(hm:Nm[i]? =some [99,97,117,115,101,50])(ss:List Sd)(hss:ss.length≤8)
  (e0:Int)(he0:0≤e0∧e0≤65535)(hl0:0≤Y.l20∧Y.l20≤65535)(hs0:es[0]? =some e0)(e1:Int)(he1:0≤e1∧e1≤65535)(hl1:0≤Y.l21∧Y.l21≤65535)(hs1:es[1]? =some e1)(hR:R7[2]? =some (.sl true 1 [.int .i64 (min e0 Y.l20),.int .i64 (min e1 Y.l21)]))(hq0: -128≤Y.p20∧Y.p20≤127)(hq1: -128≤Y.p21∧Y.p21≤127):
  jn be es Y N R7 bM Nm i (.ref 1) [.cells false true 50 (ss.map qi)]=jn be es Y N R7 bM Nm (i+1:Nat) (.ref 1) [.cells false true 50 ((ss++ [(⟨[99,97,117,115,101,50],(Y.p20,Y.p21),((min e0 Y.l20)+(min e1 Y.l21)),0⟩:Sd)]).map qi)]:=by
 unfold jn;have hp0:=zd (a:=Y.p20) (by omega);have hp1:=zd (a:=Y.p21) (by omega);have wi:IntKind.i64.wrap ((i:Int)+1)=((i+1:Nat):Int):=by rw[zd (by omega)];rfl
 have mx:decide (ss.length+1<maxRow)=true:=decide_eq_true (by unfold maxRow;omega);have f1:decide (0≤(i:Int)∧(i:Int)<N.length)=true:=decide_eq_true (by have:=(List.getElem?_eq_some_iff.1 hi).1;omega);have f2:decide (0≤(i:Int)∧(i:Int)<Nm.length)=true:=decide_eq_true (by have:=(List.getElem?_eq_some_iff.1 hm).1;omega);have f3:decide ((2:Int)<R7.length)=true:=decide_eq_true (by have:=(List.getElem?_eq_some_iff.1 hR).1;omega);have f4:decide ((0:Int)≤2∧(2:Int)<R7.length)=true:=decide_eq_true (by have:=(List.getElem?_eq_some_iff.1 hR).1;omega);have mx1:decide (1<maxRow)=true:=by decide
 have ms:decide (6<xg)=true:=by decide
 have u0:=zd (a:=e0) (by omega);have v0:=zd (a:=Y.l20) (by omega);have x0:IntKind.i64.wrap 1=1:=rfl;have u1:=zd (a:=e1) (by omega);have v1:=zd (a:=Y.l21) (by omega);have x1:IntKind.i64.wrap 2=2:=rfl;have y0:IntKind.i64.wrap (0+(min e0 Y.l20))=(min e0 Y.l20):=(by rw[Int.zero_add];exact zd (by omega));have y1:=zd (a:=(min e0 Y.l20)+(min e1 Y.l21)) (by omega);rw[zq];simp -implicitDefEqProofs only[go_sem,simprocAttr,zy,xx,w8,i8,hlen,hil,hi,hm,je,wi,hR,ms,f1,f2,f3,f4];rw[zq];simp -implicitDefEqProofs only[go_sem,simprocAttr,zy,xx,w8,i8,hlen,wi,hR,u0,v0,x0,y0,u1,v1,x1,y1,hs0,hs1,bne_self_eq_false,hp0,hp1,f1,f2,f3,f4];rw[zq];simp -implicitDefEqProofs only[go_sem,simprocAttr,zy,xx,w8,i8,hlen,wi,hR,u0,v0,x0,y0,u1,v1,x1,y1,hs0,hs1,bne_self_eq_false,hp0,hp1,f1,f2,f3,f4];rw[zq];simp -implicitDefEqProofs only[go_sem,simprocAttr,zy,xx,w8,i8,hlen,wi,hR,u0,v0,x0,y0,u1,v1,x1,y1,hs0,hs1,mx,mx1,hp0,hp1,hm,f1,f2,f3,f4]
 try simp only[List.map_append,List.map_cons,List.map_nil]
 try rfl
variable (be:Bool) (es:List Int) (Y:Cx)
theorem yqt(hlen:((es.length:Nat):Int)=3)(N:List Int)(R7:List V)(bM:Bool)(Nm:List (List UInt8))(i:Nat)(hi:N[i]? =some 0)(hil:decide ((i:Int)<N.length)=true)(hi8:i<8)(hm:Nm[i]? =some [99,97,117,115,101,48])(ss:List Sd)(hss:ss.length≤8)
  (e0:Int)(he0:0≤e0∧e0≤65535)(hl0:0≤Y.l00∧Y.l00≤65535)(hs0:es[0]? =some e0)(e1:Int)(he1:0≤e1∧e1≤65535)(hl1:0≤Y.l01∧Y.l01≤65535)(hs1:es[1]? =some e1)(e2:Int)(he2:0≤e2∧e2≤65535)(hl2:0≤Y.l02∧Y.l02≤65535)(hs2:es[2]? =some e2)(hR:R7[0]? =some (.sl true 1 [.int .i64 (min e0 Y.l00),.int .i64 (min e1 Y.l01),.int .i64 (min e2 Y.l02)]))(hq0: -128≤Y.p00∧Y.p00≤127)(hq1: -128≤Y.p01∧Y.p01≤127):
  jn be es Y N R7 bM Nm i (.sl false 0 []) []=jn be es Y N R7 bM Nm (i+1:Nat) (.ref 1) [.cells false true 50 (List.map qi [(⟨[99,97,117,115,101,48],(Y.p00,Y.p01),(((min e0 Y.l00)+(min e1 Y.l01))+(min e2 Y.l02)),0⟩:Sd)])]:=by
 unfold jn;have hp0:=zd (a:=Y.p00) (by omega);have hp1:=zd (a:=Y.p01) (by omega);have wi:IntKind.i64.wrap ((i:Int)+1)=((i+1:Nat):Int):=by rw[zd (by omega)];rfl
 have mx:decide (ss.length+1<maxRow)=true:=decide_eq_true (by unfold maxRow;omega);have f1:decide (0≤(i:Int)∧(i:Int)<N.length)=true:=decide_eq_true (by have:=(List.getElem?_eq_some_iff.1 hi).1;omega);have f2:decide (0≤(i:Int)∧(i:Int)<Nm.length)=true:=decide_eq_true (by have:=(List.getElem?_eq_some_iff.1 hm).1;omega);have f3:decide ((0:Int)<R7.length)=true:=decide_eq_true (by have:=(List.getElem?_eq_some_iff.1 hR).1;omega);have f4:decide ((0:Int)≤0∧(0:Int)<R7.length)=true:=decide_eq_true (by have:=(List.getElem?_eq_some_iff.1 hR).1;omega);have mx1:decide (1<maxRow)=true:=by decide
 have ms:decide (6<xg)=true:=by decide
 have u0:=zd (a:=e0) (by omega);have v0:=zd (a:=Y.l00) (by omega);have x0:IntKind.i64.wrap 1=1:=rfl;have u1:=zd (a:=e1) (by omega);have v1:=zd (a:=Y.l01) (by omega);have x1:IntKind.i64.wrap 2=2:=rfl;have u2:=zd (a:=e2) (by omega);have v2:=zd (a:=Y.l02) (by omega);have x2:IntKind.i64.wrap 3=3:=rfl;have y0:IntKind.i64.wrap (0+(min e0 Y.l00))=(min e0 Y.l00):=(by rw[Int.zero_add];exact zd (by omega));have y1:=zd (a:=(min e0 Y.l00)+(min e1 Y.l01)) (by omega);have y2:=zd (a:=((min e0 Y.l00)+(min e1 Y.l01))+(min e2 Y.l02)) (by omega);rw[zq];simp -implicitDefEqProofs only[go_sem,simprocAttr,zy,xx,w8,i8,hlen,hil,hi,hm,yx,wi,hR,ms,f1,f2,f3,f4];rw[zq];simp -implicitDefEqProofs only[go_sem,simprocAttr,zy,xx,w8,i8,hlen,wi,hR,u0,v0,x0,y0,u1,v1,x1,y1,u2,v2,x2,y2,hs0,hs1,hs2,bne_self_eq_false,hp0,hp1,f1,f2,f3,f4];rw[zq];simp -implicitDefEqProofs only[go_sem,simprocAttr,zy,xx,w8,i8,hlen,wi,hR,u0,v0,x0,y0,u1,v1,x1,y1,u2,v2,x2,y2,hs0,hs1,hs2,bne_self_eq_false,hp0,hp1,f1,f2,f3,f4];rw[zq];simp -implicitDefEqProofs only[go_sem,simprocAttr,zy,xx,w8,i8,hlen,wi,hR,u0,v0,x0,y0,u1,v1,x1,y1,u2,v2,x2,y2,hs0,hs1,hs2,bne_self_eq_false,hp0,hp1,f1,f2,f3,f4];rw[zq];simp -implicitDefEqProofs only[go_sem,simprocAttr,zy,xx,w8,i8,hlen,wi,hR,u0,v0,x0,y0,u1,v1,x1,y1,u2,v2,x2,y2,hs0,hs1,hs2,mx,mx1,hp0,hp1,hm,f1,f2,f3,f4]
 try simp only[List.map_append,List.map_cons,List.map_nil]
 try rfl
theorem yqs(hlen:((es.length:Nat):Int)=3)(N:List Int)(R7:List V)(bM:Bool)(Nm:List (List UInt8))(i:Nat)(hi:N[i]? =some 0)(hil:decide ((i:Int)<N.length)=true)(hi8:i<8)(hm:Nm[i]? =some [99,97,117,115,101,48])(ss:List Sd)(hss:ss.length≤8)
  (e0:Int)(he0:0≤e0∧e0≤65535)(hl0:0≤Y.l00∧Y.l00≤65535)(hs0:es[0]? =some e0)(e1:Int)(he1:0≤e1∧e1≤65535)(hl1:0≤Y.l01∧Y.l01≤65535)(hs1:es[1]? =some e1)(e2:Int)(he2:0≤e2∧e2≤65535)(hl2:0≤Y.l02∧Y.l02≤65535)(hs2:es[2]? =some e2)(hR:R7[0]? =some (.sl true 1 [.int .i64 (min e0 Y.l00),.int .i64 (min e1 Y.l01),.int .i64 (min e2 Y.l02)]))(hq0: -128≤Y.p00∧Y.p00≤127)(hq1: -128≤Y.p01∧Y.p01≤127):
  jn be es Y N R7 bM Nm i (.ref 1) [.cells false true 50 (ss.map qi)]=jn be es Y N R7 bM Nm (i+1:Nat) (.ref 1) [.cells false true 50 ((ss++ [(⟨[99,97,117,115,101,48],(Y.p00,Y.p01),(((min e0 Y.l00)+(min e1 Y.l01))+(min e2 Y.l02)),0⟩:Sd)]).map qi)]:=by
 unfold jn;have hp0:=zd (a:=Y.p00) (by omega);have hp1:=zd (a:=Y.p01) (by omega);have wi:IntKind.i64.wrap ((i:Int)+1)=((i+1:Nat):Int):=by rw[zd (by omega)];rfl
 have mx:decide (ss.length+1<maxRow)=true:=decide_eq_true (by unfold maxRow;omega);have f1:decide (0≤(i:Int)∧(i:Int)<N.length)=true:=decide_eq_true (by have:=(List.getElem?_eq_some_iff.1 hi).1;omega);have f2:decide (0≤(i:Int)∧(i:Int)<Nm.length)=true:=decide_eq_true (by have:=(List.getElem?_eq_some_iff.1 hm).1;omega);have f3:decide ((0:Int)<R7.length)=true:=decide_eq_true (by have:=(List.getElem?_eq_some_iff.1 hR).1;omega);have f4:decide ((0:Int)≤0∧(0:Int)<R7.length)=true:=decide_eq_true (by have:=(List.getElem?_eq_some_iff.1 hR).1;omega);have mx1:decide (1<maxRow)=true:=by decide
 have ms:decide (6<xg)=true:=by decide
 have u0:=zd (a:=e0) (by omega);have v0:=zd (a:=Y.l00) (by omega);have x0:IntKind.i64.wrap 1=1:=rfl;have u1:=zd (a:=e1) (by omega);have v1:=zd (a:=Y.l01) (by omega);have x1:IntKind.i64.wrap 2=2:=rfl;have u2:=zd (a:=e2) (by omega);have v2:=zd (a:=Y.l02) (by omega);have x2:IntKind.i64.wrap 3=3:=rfl;have y0:IntKind.i64.wrap (0+(min e0 Y.l00))=(min e0 Y.l00):=(by rw[Int.zero_add];exact zd (by omega));have y1:=zd (a:=(min e0 Y.l00)+(min e1 Y.l01)) (by omega);have y2:=zd (a:=((min e0 Y.l00)+(min e1 Y.l01))+(min e2 Y.l02)) (by omega);rw[zq];simp -implicitDefEqProofs only[go_sem,simprocAttr,zy,xx,w8,i8,hlen,hil,hi,hm,yx,wi,hR,ms,f1,f2,f3,f4];rw[zq];simp -implicitDefEqProofs only[go_sem,simprocAttr,zy,xx,w8,i8,hlen,wi,hR,u0,v0,x0,y0,u1,v1,x1,y1,u2,v2,x2,y2,hs0,hs1,hs2,bne_self_eq_false,hp0,hp1,f1,f2,f3,f4];rw[zq];simp -implicitDefEqProofs only[go_sem,simprocAttr,zy,xx,w8,i8,hlen,wi,hR,u0,v0,x0,y0,u1,v1,x1,y1,u2,v2,x2,y2,hs0,hs1,hs2,bne_self_eq_false,hp0,hp1,f1,f2,f3,f4];rw[zq];simp -implicitDefEqProofs only[go_sem,simprocAttr,zy,xx,w8,i8,hlen,wi,hR,u0,v0,x0,y0,u1,v1,x1,y1,u2,v2,x2,y2,hs0,hs1,hs2,bne_self_eq_false,hp0,hp1,f1,f2,f3,f4];rw[zq];simp -implicitDefEqProofs only[go_sem,simprocAttr,zy,xx,w8,i8,hlen,wi,hR,u0,v0,x0,y0,u1,v1,x1,y1,u2,v2,x2,y2,hs0,hs1,hs2,mx,mx1,hp0,hp1,hm,f1,f2,f3,f4]
 try simp only[List.map_append,List.map_cons,List.map_nil]
 try rfl
theorem yqr(hlen:((es.length:Nat):Int)=3)(N:List Int)(R7:List V)(bM:Bool)(Nm:List (List UInt8))(i:Nat)(hi:N[i]? =some 1)(hil:decide ((i:Int)<N.length)=true)(hi8:i<8)(hm:Nm[i]? =some [99,97,117,115,101,49])(ss:List Sd)(hss:ss.length≤8)
  (e0:Int)(he0:0≤e0∧e0≤65535)(hl0:0≤Y.l10∧Y.l10≤65535)(hs0:es[0]? =some e0)(e1:Int)(he1:0≤e1∧e1≤65535)(hl1:0≤Y.l11∧Y.l11≤65535)(hs1:es[1]? =some e1)(e2:Int)(he2:0≤e2∧e2≤65535)(hl2:0≤Y.l12∧Y.l12≤65535)(hs2:es[2]? =some e2)(hR:R7[1]? =some (.sl true 1 [.int .i64 (min e0 Y.l10),.int .i64 (min e1 Y.l11),.int .i64 (min e2 Y.l12)]))(hq0: -128≤Y.p10∧Y.p10≤127)(hq1: -128≤Y.p11∧Y.p11≤127):
  jn be es Y N R7 bM Nm i (.sl false 0 []) []=jn be es Y N R7 bM Nm (i+1:Nat) (.ref 1) [.cells false true 50 (List.map qi [(⟨[99,97,117,115,101,49],(Y.p10,Y.p11),(((min e0 Y.l10)+(min e1 Y.l11))+(min e2 Y.l12)),0⟩:Sd)])]:=by
 unfold jn;have hp0:=zd (a:=Y.p10) (by omega);have hp1:=zd (a:=Y.p11) (by omega);have wi:IntKind.i64.wrap ((i:Int)+1)=((i+1:Nat):Int):=by rw[zd (by omega)];rfl
 have mx:decide (ss.length+1<maxRow)=true:=decide_eq_true (by unfold maxRow;omega);have f1:decide (0≤(i:Int)∧(i:Int)<N.length)=true:=decide_eq_true (by have:=(List.getElem?_eq_some_iff.1 hi).1;omega);have f2:decide (0≤(i:Int)∧(i:Int)<Nm.length)=true:=decide_eq_true (by have:=(List.getElem?_eq_some_iff.1 hm).1;omega);have f3:decide ((1:Int)<R7.length)=true:=decide_eq_true (by have:=(List.getElem?_eq_some_iff.1 hR).1;omega);have f4:decide ((0:Int)≤1∧(1:Int)<R7.length)=true:=decide_eq_true (by have:=(List.getElem?_eq_some_iff.1 hR).1;omega);have mx1:decide (1<maxRow)=true:=by decide
 have ms:decide (6<xg)=true:=by decide
 have u0:=zd (a:=e0) (by omega);have v0:=zd (a:=Y.l10) (by omega);have x0:IntKind.i64.wrap 1=1:=rfl;have u1:=zd (a:=e1) (by omega);have v1:=zd (a:=Y.l11) (by omega);have x1:IntKind.i64.wrap 2=2:=rfl;have u2:=zd (a:=e2) (by omega);have v2:=zd (a:=Y.l12) (by omega);have x2:IntKind.i64.wrap 3=3:=rfl;have y0:IntKind.i64.wrap (0+(min e0 Y.l10))=(min e0 Y.l10):=(by rw[Int.zero_add];exact zd (by omega));have y1:=zd (a:=(min e0 Y.l10)+(min e1 Y.l11)) (by omega);have y2:=zd (a:=((min e0 Y.l10)+(min e1 Y.l11))+(min e2 Y.l12)) (by omega);rw[zq];simp -implicitDefEqProofs only[go_sem,simprocAttr,zy,xx,w8,i8,hlen,hil,hi,hm,jo,wi,hR,ms,f1,f2,f3,f4];rw[zq];simp -implicitDefEqProofs only[go_sem,simprocAttr,zy,xx,w8,i8,hlen,wi,hR,u0,v0,x0,y0,u1,v1,x1,y1,u2,v2,x2,y2,hs0,hs1,hs2,bne_self_eq_false,hp0,hp1,f1,f2,f3,f4];rw[zq];simp -implicitDefEqProofs only[go_sem,simprocAttr,zy,xx,w8,i8,hlen,wi,hR,u0,v0,x0,y0,u1,v1,x1,y1,u2,v2,x2,y2,hs0,hs1,hs2,bne_self_eq_false,hp0,hp1,f1,f2,f3,f4];rw[zq];simp -implicitDefEqProofs only[go_sem,simprocAttr,zy,xx,w8,i8,hlen,wi,hR,u0,v0,x0,y0,u1,v1,x1,y1,u2,v2,x2,y2,hs0,hs1,hs2,bne_self_eq_false,hp0,hp1,f1,f2,f3,f4];rw[zq];simp -implicitDefEqProofs only[go_sem,simprocAttr,zy,xx,w8,i8,hlen,wi,hR,u0,v0,x0,y0,u1,v1,x1,y1,u2,v2,x2,y2,hs0,hs1,hs2,mx,mx1,hp0,hp1,hm,f1,f2,f3,f4]
 try simp only[List.map_append,List.map_cons,List.map_nil]
 try rfl
theorem yqq(hlen:((es.length:Nat):Int)=3)(N:List Int)(R7:List V)(bM:Bool)(Nm:List (List UInt8))(i:Nat)(hi:N[i]? =some 1)(hil:decide ((i:Int)<N.length)=true)(hi8:i<8)(hm:Nm[i]? =some [99,97,117,115,101,49])(ss:List Sd)(hss:ss.length≤8)
  (e0:Int)(he0:0≤e0∧e0≤65535)(hl0:0≤Y.l10∧Y.l10≤65535)(hs0:es[0]? =some e0)(e1:Int)(he1:0≤e1∧e1≤65535)(hl1:0≤Y.l11∧Y.l11≤65535)(hs1:es[1]? =some e1)(e2:Int)(he2:0≤e2∧e2≤65535)(hl2:0≤Y.l12∧Y.l12≤65535)(hs2:es[2]? =some e2)(hR:R7[1]? =some (.sl true 1 [.int .i64 (min e0 Y.l10),.int .i64 (min e1 Y.l11),.int .i64 (min e2 Y.l12)]))(hq0: -128≤Y.p10∧Y.p10≤127)(hq1: -128≤Y.p11∧Y.p11≤127):
  jn be es Y N R7 bM Nm i (.ref 1) [.cells false true 50 (ss.map qi)]=jn be es Y N R7 bM Nm (i+1:Nat) (.ref 1) [.cells false true 50 ((ss++ [(⟨[99,97,117,115,101,49],(Y.p10,Y.p11),(((min e0 Y.l10)+(min e1 Y.l11))+(min e2 Y.l12)),0⟩:Sd)]).map qi)]:=by
 unfold jn;have hp0:=zd (a:=Y.p10) (by omega);have hp1:=zd (a:=Y.p11) (by omega);have wi:IntKind.i64.wrap ((i:Int)+1)=((i+1:Nat):Int):=by rw[zd (by omega)];rfl
 have mx:decide (ss.length+1<maxRow)=true:=decide_eq_true (by unfold maxRow;omega);have f1:decide (0≤(i:Int)∧(i:Int)<N.length)=true:=decide_eq_true (by have:=(List.getElem?_eq_some_iff.1 hi).1;omega);have f2:decide (0≤(i:Int)∧(i:Int)<Nm.length)=true:=decide_eq_true (by have:=(List.getElem?_eq_some_iff.1 hm).1;omega);have f3:decide ((1:Int)<R7.length)=true:=decide_eq_true (by have:=(List.getElem?_eq_some_iff.1 hR).1;omega);have f4:decide ((0:Int)≤1∧(1:Int)<R7.length)=true:=decide_eq_true (by have:=(List.getElem?_eq_some_iff.1 hR).1;omega);have mx1:decide (1<maxRow)=true:=by decide
 have ms:decide (6<xg)=true:=by decide
 have u0:=zd (a:=e0) (by omega);have v0:=zd (a:=Y.l10) (by omega);have x0:IntKind.i64.wrap 1=1:=rfl;have u1:=zd (a:=e1) (by omega);have v1:=zd (a:=Y.l11) (by omega);have x1:IntKind.i64.wrap 2=2:=rfl;have u2:=zd (a:=e2) (by omega);have v2:=zd (a:=Y.l12) (by omega);have x2:IntKind.i64.wrap 3=3:=rfl;have y0:IntKind.i64.wrap (0+(min e0 Y.l10))=(min e0 Y.l10):=(by rw[Int.zero_add];exact zd (by omega));have y1:=zd (a:=(min e0 Y.l10)+(min e1 Y.l11)) (by omega);have y2:=zd (a:=((min e0 Y.l10)+(min e1 Y.l11))+(min e2 Y.l12)) (by omega);rw[zq];simp -implicitDefEqProofs only[go_sem,simprocAttr,zy,xx,w8,i8,hlen,hil,hi,hm,jo,wi,hR,ms,f1,f2,f3,f4];rw[zq];simp -implicitDefEqProofs only[go_sem,simprocAttr,zy,xx,w8,i8,hlen,wi,hR,u0,v0,x0,y0,u1,v1,x1,y1,u2,v2,x2,y2,hs0,hs1,hs2,bne_self_eq_false,hp0,hp1,f1,f2,f3,f4];rw[zq];simp -implicitDefEqProofs only[go_sem,simprocAttr,zy,xx,w8,i8,hlen,wi,hR,u0,v0,x0,y0,u1,v1,x1,y1,u2,v2,x2,y2,hs0,hs1,hs2,bne_self_eq_false,hp0,hp1,f1,f2,f3,f4];rw[zq];simp -implicitDefEqProofs only[go_sem,simprocAttr,zy,xx,w8,i8,hlen,wi,hR,u0,v0,x0,y0,u1,v1,x1,y1,u2,v2,x2,y2,hs0,hs1,hs2,bne_self_eq_false,hp0,hp1,f1,f2,f3,f4];rw[zq];simp -implicitDefEqProofs only[go_sem,simprocAttr,zy,xx,w8,i8,hlen,wi,hR,u0,v0,x0,y0,u1,v1,x1,y1,u2,v2,x2,y2,hs0,hs1,hs2,mx,mx1,hp0,hp1,hm,f1,f2,f3,f4]
 try simp only[List.map_append,List.map_cons,List.map_nil]
 try rfl
theorem yqp(hlen:((es.length:Nat):Int)=3)(N:List Int)(R7:List V)(bM:Bool)(Nm:List (List UInt8))(i:Nat)(hi:N[i]? =some 2)(hil:decide ((i:Int)<N.length)=true)(hi8:i<8)(hm:Nm[i]? =some [99,97,117,115,101,50])(ss:List Sd)(hss:ss.length≤8)
  (e0:Int)(he0:0≤e0∧e0≤65535)(hl0:0≤Y.l20∧Y.l20≤65535)(hs0:es[0]? =some e0)(e1:Int)(he1:0≤e1∧e1≤65535)(hl1:0≤Y.l21∧Y.l21≤65535)(hs1:es[1]? =some e1)(e2:Int)(he2:0≤e2∧e2≤65535)(hl2:0≤Y.l22∧Y.l22≤65535)(hs2:es[2]? =some e2)(hR:R7[2]? =some (.sl true 1 [.int .i64 (min e0 Y.l20),.int .i64 (min e1 Y.l21),.int .i64 (min e2 Y.l22)]))(hq0: -128≤Y.p20∧Y.p20≤127)(hq1: -128≤Y.p21∧Y.p21≤127):
  jn be es Y N R7 bM Nm i (.sl false 0 []) []=jn be es Y N R7 bM Nm (i+1:Nat) (.ref 1) [.cells false true 50 (List.map qi [(⟨[99,97,117,115,101,50],(Y.p20,Y.p21),(((min e0 Y.l20)+(min e1 Y.l21))+(min e2 Y.l22)),0⟩:Sd)])]:=by
 unfold jn;have hp0:=zd (a:=Y.p20) (by omega);have hp1:=zd (a:=Y.p21) (by omega);have wi:IntKind.i64.wrap ((i:Int)+1)=((i+1:Nat):Int):=by rw[zd (by omega)];rfl
 have mx:decide (ss.length+1<maxRow)=true:=decide_eq_true (by unfold maxRow;omega);have f1:decide (0≤(i:Int)∧(i:Int)<N.length)=true:=decide_eq_true (by have:=(List.getElem?_eq_some_iff.1 hi).1;omega);have f2:decide (0≤(i:Int)∧(i:Int)<Nm.length)=true:=decide_eq_true (by have:=(List.getElem?_eq_some_iff.1 hm).1;omega);have f3:decide ((2:Int)<R7.length)=true:=decide_eq_true (by have:=(List.getElem?_eq_some_iff.1 hR).1;omega);have f4:decide ((0:Int)≤2∧(2:Int)<R7.length)=true:=decide_eq_true (by have:=(List.getElem?_eq_some_iff.1 hR).1;omega);have mx1:decide (1<maxRow)=true:=by decide
 have ms:decide (6<xg)=true:=by decide
 have u0:=zd (a:=e0) (by omega);have v0:=zd (a:=Y.l20) (by omega);have x0:IntKind.i64.wrap 1=1:=rfl;have u1:=zd (a:=e1) (by omega);have v1:=zd (a:=Y.l21) (by omega);have x1:IntKind.i64.wrap 2=2:=rfl;have u2:=zd (a:=e2) (by omega);have v2:=zd (a:=Y.l22) (by omega);have x2:IntKind.i64.wrap 3=3:=rfl;have y0:IntKind.i64.wrap (0+(min e0 Y.l20))=(min e0 Y.l20):=(by rw[Int.zero_add];exact zd (by omega));have y1:=zd (a:=(min e0 Y.l20)+(min e1 Y.l21)) (by omega);have y2:=zd (a:=((min e0 Y.l20)+(min e1 Y.l21))+(min e2 Y.l22)) (by omega);rw[zq];simp -implicitDefEqProofs only[go_sem,simprocAttr,zy,xx,w8,i8,hlen,hil,hi,hm,je,wi,hR,ms,f1,f2,f3,f4];rw[zq];simp -implicitDefEqProofs only[go_sem,simprocAttr,zy,xx,w8,i8,hlen,wi,hR,u0,v0,x0,y0,u1,v1,x1,y1,u2,v2,x2,y2,hs0,hs1,hs2,bne_self_eq_false,hp0,hp1,f1,f2,f3,f4];rw[zq];simp -implicitDefEqProofs only[go_sem,simprocAttr,zy,xx,w8,i8,hlen,wi,hR,u0,v0,x0,y0,u1,v1,x1,y1,u2,v2,x2,y2,hs0,hs1,hs2,bne_self_eq_false,hp0,hp1,f1,f2,f3,f4];rw[zq];simp -implicitDefEqProofs only[go_sem,simprocAttr,zy,xx,w8,i8,hlen,wi,hR,u0,v0,x0,y0,u1,v1,x1,y1,u2,v2,x2,y2,hs0,hs1,hs2,bne_self_eq_false,hp0,hp1,f1,f2,f3,f4];rw[zq];simp -implicitDefEqProofs only[go_sem,simprocAttr,zy,xx,w8,i8,hlen,wi,hR,u0,v0,x0,y0,u1,v1,x1,y1,u2,v2,x2,y2,hs0,hs1,hs2,mx,mx1,hp0,hp1,hm,f1,f2,f3,f4]
 try simp only[List.map_append,List.map_cons,List.map_nil]
 try rfl
theorem yqo(hlen:((es.length:Nat):Int)=3)(N:List Int)(R7:List V)(bM:Bool)(Nm:List (List UInt8))(i:Nat)(hi:N[i]? =some 2)(hil:decide ((i:Int)<N.length)=true)(hi8:i<8)(hm:Nm[i]? =some [99,97,117,115,101,50])(ss:List Sd)(hss:ss.length≤8)
  (e0:Int)(he0:0≤e0∧e0≤65535)(hl0:0≤Y.l20∧Y.l20≤65535)(hs0:es[0]? =some e0)(e1:Int)(he1:0≤e1∧e1≤65535)(hl1:0≤Y.l21∧Y.l21≤65535)(hs1:es[1]? =some e1)(e2:Int)(he2:0≤e2∧e2≤65535)(hl2:0≤Y.l22∧Y.l22≤65535)(hs2:es[2]? =some e2)(hR:R7[2]? =some (.sl true 1 [.int .i64 (min e0 Y.l20),.int .i64 (min e1 Y.l21),.int .i64 (min e2 Y.l22)]))(hq0: -128≤Y.p20∧Y.p20≤127)(hq1: -128≤Y.p21∧Y.p21≤127):
  jn be es Y N R7 bM Nm i (.ref 1) [.cells false true 50 (ss.map qi)]=jn be es Y N R7 bM Nm (i+1:Nat) (.ref 1) [.cells false true 50 ((ss++ [(⟨[99,97,117,115,101,50],(Y.p20,Y.p21),(((min e0 Y.l20)+(min e1 Y.l21))+(min e2 Y.l22)),0⟩:Sd)]).map qi)]:=by
 unfold jn;have hp0:=zd (a:=Y.p20) (by omega);have hp1:=zd (a:=Y.p21) (by omega);have wi:IntKind.i64.wrap ((i:Int)+1)=((i+1:Nat):Int):=by rw[zd (by omega)];rfl
 have mx:decide (ss.length+1<maxRow)=true:=decide_eq_true (by unfold maxRow;omega);have f1:decide (0≤(i:Int)∧(i:Int)<N.length)=true:=decide_eq_true (by have:=(List.getElem?_eq_some_iff.1 hi).1;omega);have f2:decide (0≤(i:Int)∧(i:Int)<Nm.length)=true:=decide_eq_true (by have:=(List.getElem?_eq_some_iff.1 hm).1;omega);have f3:decide ((2:Int)<R7.length)=true:=decide_eq_true (by have:=(List.getElem?_eq_some_iff.1 hR).1;omega);have f4:decide ((0:Int)≤2∧(2:Int)<R7.length)=true:=decide_eq_true (by have:=(List.getElem?_eq_some_iff.1 hR).1;omega);have mx1:decide (1<maxRow)=true:=by decide
 have ms:decide (6<xg)=true:=by decide
 have u0:=zd (a:=e0) (by omega);have v0:=zd (a:=Y.l20) (by omega);have x0:IntKind.i64.wrap 1=1:=rfl;have u1:=zd (a:=e1) (by omega);have v1:=zd (a:=Y.l21) (by omega);have x1:IntKind.i64.wrap 2=2:=rfl;have u2:=zd (a:=e2) (by omega);have v2:=zd (a:=Y.l22) (by omega);have x2:IntKind.i64.wrap 3=3:=rfl;have y0:IntKind.i64.wrap (0+(min e0 Y.l20))=(min e0 Y.l20):=(by rw[Int.zero_add];exact zd (by omega));have y1:=zd (a:=(min e0 Y.l20)+(min e1 Y.l21)) (by omega);have y2:=zd (a:=((min e0 Y.l20)+(min e1 Y.l21))+(min e2 Y.l22)) (by omega);rw[zq];simp -implicitDefEqProofs only[go_sem,simprocAttr,zy,xx,w8,i8,hlen,hil,hi,hm,je,wi,hR,ms,f1,f2,f3,f4];rw[zq];simp -implicitDefEqProofs only[go_sem,simprocAttr,zy,xx,w8,i8,hlen,wi,hR,u0,v0,x0,y0,u1,v1,x1,y1,u2,v2,x2,y2,hs0,hs1,hs2,bne_self_eq_false,hp0,hp1,f1,f2,f3,f4];rw[zq];simp -implicitDefEqProofs only[go_sem,simprocAttr,zy,xx,w8,i8,hlen,wi,hR,u0,v0,x0,y0,u1,v1,x1,y1,u2,v2,x2,y2,hs0,hs1,hs2,bne_self_eq_false,hp0,hp1,f1,f2,f3,f4];rw[zq];simp -implicitDefEqProofs only[go_sem,simprocAttr,zy,xx,w8,i8,hlen,wi,hR,u0,v0,x0,y0,u1,v1,x1,y1,u2,v2,x2,y2,hs0,hs1,hs2,bne_self_eq_false,hp0,hp1,f1,f2,f3,f4];rw[zq];simp -implicitDefEqProofs only[go_sem,simprocAttr,zy,xx,w8,i8,hlen,wi,hR,u0,v0,x0,y0,u1,v1,x1,y1,u2,v2,x2,y2,hs0,hs1,hs2,mx,mx1,hp0,hp1,hm,f1,f2,f3,f4]
 try simp only[List.map_append,List.map_cons,List.map_nil]
 try rfl
def uv(x:Rq)(k:Nat):Int:=match x.m with
 |1=>x.ls k 0
 |2=>x.ls k 0+x.ls k 1
 |_=>x.ls k 0+x.ls k 1+x.ls k 2
def uq(Y:Cx)(k:Nat):Int×Int:=match k with
 |0=>(Y.p00,Y.p01)
 |1=>(Y.p10,Y.p11)
 |_=>(Y.p20,Y.p21)
def sdx(x:Rq)(pp:Nat→Int×Int)(k:Nat):Sd:=⟨(x.cz k).n,pp k,uv x k,0⟩
section
variable (be:Bool) (es:List Int) (Y:Cx)
def hS(N:List Int)(R7:List V)(bM:Bool)(Nm:List (List UInt8))(i:Nat)(ss:List Sd):Option Out:=
 match ss with
 | []=>jn be es Y N R7 bM Nm i (.sl false 0 []) []
 |s::r=>jn be es Y N R7 bM Nm i (.ref 1) [.cells false true 50 ((s::r).map qi)]
end
structure Pok (Y:Cx):Prop where
 a: -128≤Y.p00∧Y.p00≤127
 b: -128≤Y.p01∧Y.p01≤127
 c: -128≤Y.p10∧Y.p10≤127
 d: -128≤Y.p11∧Y.p11≤127
 e: -128≤Y.p20∧Y.p20≤127
 f: -128≤Y.p21∧Y.p21≤127
theorem yo1(be:Bool)(e0:Int)(Y:Cx)(hx:(mkR [e0] Y).ok)(hp:Pok Y)(N:List Int)(R7:List V)(bM:Bool)(Nm:List (List UInt8))(k:Nat)(hk:k<3)(i:Nat)(hi:N[i]? =some (k:Int))(hi8:i<8)(hm:Nm[i]? =some ((mkR [e0] Y).cz k).n)(ss:List Sd)(hss:ss.length≤8)
  (hR:R7[k]? =some (.sl true 1 (((List.range 1).map fun j=>(mkR [e0] Y).lost [] k j).map zx))):
  hS be [e0] Y N R7 bM Nm i ss=hS be [e0] Y N R7 bM Nm (i+1) (ss++ [sdx (mkR [e0] Y) (uq Y) k]):=by
 have hil:decide ((i:Int)<N.length)=true:=decide_eq_true (by have:=(List.getElem?_eq_some_iff.1 hi).1;omega);have he0:0≤e0∧e0≤65535:=hx.e 0
 match k,hk with
 |0,_=>
  have hl0:0≤Y.l00∧Y.l00≤65535:=hx.l 0 0;have hR:R7[0]? =some (.sl true 1 [.int .i64 (min e0 Y.l00)]):=hR;cases ss with
  |nil=>exact yq5 be [e0] Y rfl N R7 bM Nm i hi hil hi8 hm [] (by simp) e0 he0 hl0 rfl hR hp.a hp.b
  |cons s r=>exact yq4 be [e0] Y rfl N R7 bM Nm i hi hil hi8 hm (s::r) hss e0 he0 hl0 rfl hR hp.a hp.b
 |1,_=>
  have hl0:0≤Y.l10∧Y.l10≤65535:=hx.l 1 0;have hR:R7[1]? =some (.sl true 1 [.int .i64 (min e0 Y.l10)]):=hR;cases ss with
  |nil=>exact yq3 be [e0] Y rfl N R7 bM Nm i hi hil hi8 hm [] (by simp) e0 he0 hl0 rfl hR hp.c hp.d
  |cons s r=>exact yq2 be [e0] Y rfl N R7 bM Nm i hi hil hi8 hm (s::r) hss e0 he0 hl0 rfl hR hp.c hp.d
 |2,_=>
  have hl0:0≤Y.l20∧Y.l20≤65535:=hx.l 2 0;have hR:R7[2]? =some (.sl true 1 [.int .i64 (min e0 Y.l20)]):=hR;cases ss with
  |nil=>exact yq1 be [e0] Y rfl N R7 bM Nm i hi hil hi8 hm [] (by simp) e0 he0 hl0 rfl hR hp.e hp.f
  |cons s r=>exact yq0 be [e0] Y rfl N R7 bM Nm i hi hil hi8 hm (s::r) hss e0 he0 hl0 rfl hR hp.e hp.f
theorem yo0(be:Bool)(e0 e1:Int)(Y:Cx)(hx:(mkR [e0,e1] Y).ok)(hp:Pok Y)(N:List Int)(R7:List V)(bM:Bool)(Nm:List (List UInt8))(k:Nat)(hk:k<3)(i:Nat)(hi:N[i]? =some (k:Int))(hi8:i<8)(hm:Nm[i]? =some ((mkR [e0,e1] Y).cz k).n)(ss:List Sd)(hss:ss.length≤8)
  (hR:R7[k]? =some (.sl true 1 (((List.range 2).map fun j=>(mkR [e0,e1] Y).lost [] k j).map zx))):
  hS be [e0,e1] Y N R7 bM Nm i ss=hS be [e0,e1] Y N R7 bM Nm (i+1) (ss++ [sdx (mkR [e0,e1] Y) (uq Y) k]):=by
 have hil:decide ((i:Int)<N.length)=true:=decide_eq_true (by have:=(List.getElem?_eq_some_iff.1 hi).1;omega);have he0:0≤e0∧e0≤65535:=hx.e 0;have he1:0≤e1∧e1≤65535:=hx.e 1
 match k,hk with
 |0,_=>
  have hl0:0≤Y.l00∧Y.l00≤65535:=hx.l 0 0;have hl1:0≤Y.l01∧Y.l01≤65535:=hx.l 0 1;have hR:R7[0]? =some (.sl true 1 [.int .i64 (min e0 Y.l00),.int .i64 (min e1 Y.l01)]):=hR;cases ss with
  |nil=>exact yqz be [e0,e1] Y rfl N R7 bM Nm i hi hil hi8 hm [] (by simp) e0 he0 hl0 rfl e1 he1 hl1 rfl hR hp.a hp.b
  |cons s r=>exact yqy be [e0,e1] Y rfl N R7 bM Nm i hi hil hi8 hm (s::r) hss e0 he0 hl0 rfl e1 he1 hl1 rfl hR hp.a hp.b
 |1,_=>
  have hl0:0≤Y.l10∧Y.l10≤65535:=hx.l 1 0;have hl1:0≤Y.l11∧Y.l11≤65535:=hx.l 1 1;have hR:R7[1]? =some (.sl true 1 [.int .i64 (min e0 Y.l10),.int .i64 (min e1 Y.l11)]):=hR;cases ss with
  |nil=>exact yqx be [e0,e1] Y rfl N R7 bM Nm i hi hil hi8 hm [] (by simp) e0 he0 hl0 rfl e1 he1 hl1 rfl hR hp.c hp.d
  |cons s r=>exact yqw be [e0,e1] Y rfl N R7 bM Nm i hi hil hi8 hm (s::r) hss e0 he0 hl0 rfl e1 he1 hl1 rfl hR hp.c hp.d
 |2,_=>
  have hl0:0≤Y.l20∧Y.l20≤65535:=hx.l 2 0;have hl1:0≤Y.l21∧Y.l21≤65535:=hx.l 2 1;have hR:R7[2]? =some (.sl true 1 [.int .i64 (min e0 Y.l20),.int .i64 (min e1 Y.l21)]):=hR;cases ss with
  |nil=>exact yqv be [e0,e1] Y rfl N R7 bM Nm i hi hil hi8 hm [] (by simp) e0 he0 hl0 rfl e1 he1 hl1 rfl hR hp.e hp.f
  |cons s r=>exact yqu be [e0,e1] Y rfl N R7 bM Nm i hi hil hi8 hm (s::r) hss e0 he0 hl0 rfl e1 he1 hl1 rfl hR hp.e hp.f
theorem yoz(be:Bool)(e0 e1 e2:Int)(Y:Cx)(hx:(mkR [e0,e1,e2] Y).ok)(hp:Pok Y)(N:List Int)(R7:List V)(bM:Bool)(Nm:List (List UInt8))(k:Nat)(hk:k<3)(i:Nat)(hi:N[i]? =some (k:Int))(hi8:i<8)(hm:Nm[i]? =some ((mkR [e0,e1,e2] Y).cz k).n)(ss:List Sd)(hss:ss.length≤8)
  (hR:R7[k]? =some (.sl true 1 (((List.range 3).map fun j=>(mkR [e0,e1,e2] Y).lost [] k j).map zx))):
  hS be [e0,e1,e2] Y N R7 bM Nm i ss=hS be [e0,e1,e2] Y N R7 bM Nm (i+1) (ss++ [sdx (mkR [e0,e1,e2] Y) (uq Y) k]):=by
 have hil:decide ((i:Int)<N.length)=true:=decide_eq_true (by have:=(List.getElem?_eq_some_iff.1 hi).1;omega);have he0:0≤e0∧e0≤65535:=hx.e 0;have he1:0≤e1∧e1≤65535:=hx.e 1;have he2:0≤e2∧e2≤65535:=hx.e 2
 match k,hk with
 |0,_=>
  have hl0:0≤Y.l00∧Y.l00≤65535:=hx.l 0 0;have hl1:0≤Y.l01∧Y.l01≤65535:=hx.l 0 1;have hl2:0≤Y.l02∧Y.l02≤65535:=hx.l 0 2;have hR:R7[0]? =some (.sl true 1 [.int .i64 (min e0 Y.l00),.int .i64 (min e1 Y.l01),.int .i64 (min e2 Y.l02)]):=hR;cases ss with
  |nil=>exact yqt be [e0,e1,e2] Y rfl N R7 bM Nm i hi hil hi8 hm [] (by simp) e0 he0 hl0 rfl e1 he1 hl1 rfl e2 he2 hl2 rfl hR hp.a hp.b
  |cons s r=>exact yqs be [e0,e1,e2] Y rfl N R7 bM Nm i hi hil hi8 hm (s::r) hss e0 he0 hl0 rfl e1 he1 hl1 rfl e2 he2 hl2 rfl hR hp.a hp.b
 |1,_=>
  have hl0:0≤Y.l10∧Y.l10≤65535:=hx.l 1 0;have hl1:0≤Y.l11∧Y.l11≤65535:=hx.l 1 1;have hl2:0≤Y.l12∧Y.l12≤65535:=hx.l 1 2;have hR:R7[1]? =some (.sl true 1 [.int .i64 (min e0 Y.l10),.int .i64 (min e1 Y.l11),.int .i64 (min e2 Y.l12)]):=hR;cases ss with
  |nil=>exact yqr be [e0,e1,e2] Y rfl N R7 bM Nm i hi hil hi8 hm [] (by simp) e0 he0 hl0 rfl e1 he1 hl1 rfl e2 he2 hl2 rfl hR hp.c hp.d
  |cons s r=>exact yqq be [e0,e1,e2] Y rfl N R7 bM Nm i hi hil hi8 hm (s::r) hss e0 he0 hl0 rfl e1 he1 hl1 rfl e2 he2 hl2 rfl hR hp.c hp.d
 |2,_=>
  have hl0:0≤Y.l20∧Y.l20≤65535:=hx.l 2 0;have hl1:0≤Y.l21∧Y.l21≤65535:=hx.l 2 1;have hl2:0≤Y.l22∧Y.l22≤65535:=hx.l 2 2;have hR:R7[2]? =some (.sl true 1 [.int .i64 (min e0 Y.l20),.int .i64 (min e1 Y.l21),.int .i64 (min e2 Y.l22)]):=hR;cases ss with
  |nil=>exact yqp be [e0,e1,e2] Y rfl N R7 bM Nm i hi hil hi8 hm [] (by simp) e0 he0 hl0 rfl e1 he1 hl1 rfl e2 he2 hl2 rfl hR hp.e hp.f
  |cons s r=>exact yqo be [e0,e1,e2] Y rfl N R7 bM Nm i hi hil hi8 hm (s::r) hss e0 he0 hl0 rfl e1 he1 hl1 rfl e2 he2 hl2 rfl hR hp.e hp.f
theorem yvj(be:Bool)(es:List Int)(Y:Cx)(hx:(mkR es Y).ok)(hp:Pok Y)(N:List Int)(R7:List V)(bM:Bool)(Nm:List (List UInt8))(hN8:N.length≤8)
  (hN:∀i (h:i<N.length),∃k:Nat,k<3∧N[i]? =some (k:Int)∧Nm[i]? =some ((mkR es Y).cz k).n∧R7[k]? =some (.sl true 1 (((List.range es.length).map fun j=>(mkR es Y).lost [] k j).map zx))):
  ∀i,i≤N.length→hS be es Y N R7 bM Nm 0 []=hS be es Y N R7 bM Nm i ((N.take i).map fun k=>sdx (mkR es Y) (uq Y) k.toNat):=by
 intro i
 induction i with
 |zero=>intro _;rfl
 |succ i ih=>
  intro hi;rw[ih (by omega)];obtain⟨k,k1,k2,k3,k4⟩:=hN i (by omega);have hg:N[i]'(by omega)=(k:Int):=by have:=List.getElem?_eq_getElem (l:=N) (i:=i) (by omega);rw[k2]at this;exact(Option.some.inj this).symm
  rw[List.take_succ_eq_append_getElem (by omega),hg,List.map_append];have hl:((N.take i).map fun k=>sdx (mkR es Y) (uq Y) k.toNat).length≤8:=by rw[List.length_map,List.length_take];omega
  have h1:1≤es.length:=hx.m1;have h3:es.length≤3:=hx.m3;rcases es with _|⟨e0,_|⟨e1,_|⟨e2,_|⟨e3,r⟩⟩⟩⟩
  ·simp at h1
  ·exact yo1 be e0 Y hx hp N R7 bM Nm k k1 i k2 (by omega) k3 _ hl k4
  ·exact yo0 be e0 e1 Y hx hp N R7 bM Nm k k1 i k2 (by omega) k3 _ hl k4
  ·exact yoz be e0 e1 e2 Y hx hp N R7 bM Nm k k1 i k2 (by omega) k3 _ hl k4
  ·simp at h3
variable (be:Bool) (es:List Int) (Y:Cx)
abbrev crw:Row:= .cells true true 58 [.agg [.int .i64 0,.int .i64 0,.int .i64 0,.int .i64 Y.pr]]
def gn(N:List Int)(Q:List V)(bI:Bool)(I:List Int)(w:Int)(j:Nat)(V25:V)(last sum:Int)(R:zw):Option Out:=
 (zu T).loop false [.code (.loop zf0),.inBlock 4,.code ((r4_48.seq (.block 6 (.loop zd5))).seq (r4_54.seq ((r4_55.seq (.cond (.tmp 352) (r4_56.seq .ret) .skip)).seq (r4_57.seq (r4_58.seq ((r4_59.seq (.cond (.tmp 384) (r4_60.seq .ret) .skip)).seq ((r4_61.seq (.cond (.tmp 387) (r4_62.seq (r4_63.seq (.cond (.tmp 414) (r4_64.seq .ret) .skip))) .skip)).seq (r4_65.seq .ret))))))))]
  ⟨4,416,0,[(1,.ptr 0 0 0),(4,nvV N),(13,.ref 1),(19,.ptr 2 0 0),(20,.sl bI 1 (I.map zx)),(21,.int .i64 w),(25,V25),(26,.sl false 0 []),(27,.int .i64 last),(28,.int .i64 sum),(268,.sl bI 1 (I.map zx)),(269,.int .i64 I.length),(270,.int .i64 j)],
   bx be es Y:: .cells false true 50 Q::crw Y::R,0,[]⟩
def w6(N:List Int)(Q:List V)(bI:Bool)(I:List Int)(w:Int)(V25 V26:V)(sum:Int)(j:Nat)(F:Nat)(R:zw):Option Out:=
 (zu T).loop false [.code (.loop zd5),.inBlock 6,.code (r4_54.seq ((r4_55.seq (.cond (.tmp 352) (r4_56.seq .ret) .skip)).seq (r4_57.seq (r4_58.seq ((r4_59.seq (.cond (.tmp 384) (r4_60.seq .ret) .skip)).seq ((r4_61.seq (.cond (.tmp 387) (r4_62.seq (r4_63.seq (.cond (.tmp 414) (r4_64.seq .ret) .skip))) .skip)).seq (r4_65.seq .ret)))))))]
  ⟨4,416,0,[(1,.ptr 0 0 0),(13,.ref 1),(19,.ptr 2 0 0),(20,.sl bI 1 (I.map zx)),(21,.int .i64 w),(25,V25),(26,V26),(28,.int .i64 sum),(299,nvV N),(300,.int .i64 N.length),(301,.int .i64 j)],
   bx be es Y:: .cells false true 50 Q::crw Y::R,F,[]⟩
theorem w12(N:List Int)(R7:List V)(bM:Bool)(Nm:List (List UInt8))(Q:List V)(hE:Q.isEmpty=false)(hid:zt Q= [])(hQ8:Q.length≤8)(bI:Bool)(I:List Int)(w t:Int)(hpr:0≤Y.pr∧Y.pr≤255)(hn:0≤Y.n∧Y.n≤255)
  (e21:(zu T).call 21 [jk (0,0) 0 Y.pr,.sl true 5 Q] [] 0 []=some (.tup [.sl bI 1 (I.map zx),.int .i64 w,.int .i64 0],[],0,[]))
  (e22:(zu T).call 22 [jk (0,0) 0 Y.pr,.sl true 5 Q,.int .i64 Y.n] [] 0 []=some (.tup [.int .i64 t,.int .i64 0],[],0,[]))
  (hw:decide (w<0)=false)(hwt:decide (w>t)=false)(hI:decide ((I.length:Int)>(Q.length:Int))=false):
  jn be es Y N R7 bM Nm N.length (.ref 1) [.cells false true 50 Q]=gn be es Y N Q bI I w 0 (.sl false 0 []) (-1) 0 []:=by
 have w1:=zd (a:=Y.pr) (by omega);have w2:=zd (a:=Y.n) (by omega);have h0:=xu N.length;have mx:decide (Q.length<maxRow)=true:=decide_eq_true (by unfold maxRow;omega);unfold jn gn;simp only[jk]at e21 e22⊢;rw[zq];simp -implicitDefEqProofs only[go_sem,simprocAttr,zy,xx,w8,i8,w1,w2,h0,e21,e22,hw,hwt,hI,vp,hE,mx,hid,List.isEmpty_nil]
 try rfl
theorem w23(N:List Int)(Q:List V)(bI:Bool)(I:List Int)(w:Int)(V25:V)(last sum:Int)(v:Nat)(k:List Int)(hV:(V25= .sl false 0 []∧v=0)∨(V25= .ref 3∧v=1)):
  gn be es Y N Q bI I w I.length V25 last sum (if v=0 then []else [.cells false true 3 (k.map zx)])=w6 be es Y N Q bI I w V25 (.sl false 0 []) sum 0 0 (if v=0 then []else [.cells false true 3 (k.map zx)]):=by
 have h0:=xu I.length;unfold gn w6;rcases hV with⟨rfl,rfl⟩|⟨rfl,rfl⟩
 ·rw[zq]
  simp -implicitDefEqProofs only[go_sem,simprocAttr,zy,xx,w8,i8,h0,if_pos]
  try rfl
 ·rw[if_neg (by decide),zq]
  simp -implicitDefEqProofs only[go_sem,simprocAttr,zy,xx,w8,i8,h0]
  try rfl
theorem zlv(N:List Int)(Q:List V)(bI:Bool)(I:List Int)(w:Int)(j:Nat)(hj:j<I.length)(hI8:I.length≤8)(last sum a k sw:Int)(nm:List UInt8)(px py:Int)(hIj:I[j]=a)(hla:last<a)(hQa:Q[a.toNat]? =some (.agg [.str nm,.int .i64 px,.int .i64 py,.int .i64 sw,.int .i64 0]))(ha:0≤a∧a<Q.length)(hNa:N[a.toNat]? =some k)(hs:0≤sum+sw∧sum+sw≤1000000):
  gn be es Y N Q bI I w j (.sl false 0 []) last sum []=gn be es Y N Q bI I w (j+1) (.ref 3) a (sum+sw) [.cells false true 3 (List.map zx [k])]:=by
 obtain⟨h1,h2,h3,h4,h5⟩:=ze hj (by omega);rw[hIj]at h3;have w1:=zd (a:=sum+sw) (by omega);have d1:decide (a≤last)=false:=decide_eq_false (by omega);have d2:decide (a≥(Q.length:Int))=false:=decide_eq_false (by omega);have d3:decide (0≤a∧a<(Q.length:Int))=true:=decide_eq_true (by omega);have d4:decide (0≤a∧a<(N.length:Int))=true:=decide_eq_true (by have:=(List.getElem?_eq_some_iff.1 hNa).1;omega);have mx:decide (1<maxRow)=true:=by decide
 unfold gn;rw[zq];simp -implicitDefEqProofs only[go_sem,simprocAttr,zy,xx,w8,i8,h1,h2,h3,h4,w1,d1,d2,d3,d4,hQa,hNa,mx]
 try rfl
theorem zlu(N:List Int)(Q:List V)(bI:Bool)(I:List Int)(w:Int)(j:Nat)(hj:j<I.length)(hI8:I.length≤8)(last sum a k sw:Int)(nm:List UInt8)(px py:Int)(rp:List Int)(hrp:rp.length≤8)(hIj:I[j]=a)(hla:last<a)(hQa:Q[a.toNat]? =some (.agg [.str nm,.int .i64 px,.int .i64 py,.int .i64 sw,.int .i64 0]))(ha:0≤a∧a<Q.length)(hNa:N[a.toNat]? =some k)(hs:0≤sum+sw∧sum+sw≤1000000):
  gn be es Y N Q bI I w j (.ref 3) last sum [.cells false true 3 (rp.map zx)]=gn be es Y N Q bI I w (j+1) (.ref 3) a (sum+sw) [.cells false true 3 ((rp++ [k]).map zx)]:=by
 obtain⟨h1,h2,h3,h4,h5⟩:=ze hj (by omega);rw[hIj]at h3;have w1:=zd (a:=sum+sw) (by omega);have d1:decide (a≤last)=false:=decide_eq_false (by omega);have d2:decide (a≥(Q.length:Int))=false:=decide_eq_false (by omega);have d3:decide (0≤a∧a<(Q.length:Int))=true:=decide_eq_true (by omega);have d4:decide (0≤a∧a<(N.length:Int))=true:=decide_eq_true (by have:=(List.getElem?_eq_some_iff.1 hNa).1;omega);have mx:decide (rp.length+1<maxRow)=true:=decide_eq_true (by unfold maxRow;omega);rw[List.map_append];unfold gn;rw[zq];simp -implicitDefEqProofs only[go_sem,simprocAttr,zy,xx,w8,i8,h1,h2,h3,h4,w1,d1,d2,d3,d4,hQa,hNa,mx]
 try rfl
variable (be:Bool) (es:List Int) (Y:Cx)
theorem yqn(N:List Int)(Q:List V)(bI:Bool)(I:List Int)(w sum:Int)(j:Nat)(hj:j<N.length)(hN8:N.length≤8)(rp lf:List Int)(hlf:lf.length≤8)(k:Int)(hk:N[j]=k)(e13:(zu T).call 13 [.sl false 0 [],.int .i64 k] [] 0 []=some (.bool false,[],0,[])):
  w6 be es Y N Q bI I w (.sl false 0 []) (.sl false 0 []) sum j 0 []=w6 be es Y N Q bI I w (.sl false 0 []) (.ref 3) sum (j+1) 0 [.cells false true 3 (List.map zx [k])]:=by
 obtain⟨h1,h2,h3,h4,h5⟩:=ze hj (by omega);rw[hk]at h3;have mx:decide (lf.length+1<maxRow)=true:=decide_eq_true (by unfold maxRow;omega);have mx1:decide (1<maxRow)=true:=by decide
 skip
 unfold w6;rw[zq];simp -implicitDefEqProofs only[go_sem,simprocAttr,zy,xx,w8,i8,h1,h2,h3,h4,e13,mx,mx1]
 try rfl
theorem yqm(N:List Int)(Q:List V)(bI:Bool)(I:List Int)(w sum:Int)(j:Nat)(hj:j<N.length)(hN8:N.length≤8)(rp lf:List Int)(hlf:lf.length≤8)(k:Int)(hk:N[j]=k)(e13:(zu T).call 13 [.sl false 0 [],.int .i64 k] [] 0 []=some (.bool false,[],0,[])):
  w6 be es Y N Q bI I w (.sl false 0 []) (.ref 3) sum j 0 [.cells false true 3 (lf.map zx)]=w6 be es Y N Q bI I w (.sl false 0 []) (.ref 3) sum (j+1) 0 [.cells false true 3 ((lf++ [k]).map zx)]:=by
 obtain⟨h1,h2,h3,h4,h5⟩:=ze hj (by omega);rw[hk]at h3;have mx:decide (lf.length+1<maxRow)=true:=decide_eq_true (by unfold maxRow;omega);have mx1:decide (1<maxRow)=true:=by decide
 rw[List.map_append];unfold w6;rw[zq];simp -implicitDefEqProofs only[go_sem,simprocAttr,zy,xx,w8,i8,h1,h2,h3,h4,e13,mx,mx1]
 try rfl
theorem yql(N:List Int)(Q:List V)(bI:Bool)(I:List Int)(w sum:Int)(j:Nat)(hj:j<N.length)(hN8:N.length≤8)(rp lf:List Int)(hlf:lf.length≤8)(k:Int)(hk:N[j]=k)(e13:(zu T).call 13 [.sl true 1 (rp.map zx),.int .i64 k] [] 0 []=some (.bool false,[],0,[])):
  w6 be es Y N Q bI I w (.ref 3) (.sl false 0 []) sum j 0 [.cells false true 3 (rp.map zx)]=w6 be es Y N Q bI I w (.ref 3) (.ref 4) sum (j+1) 8 [.cells false true 3 (rp.map zx),.cells false true 3 (List.map zx [k])]:=by
 obtain⟨h1,h2,h3,h4,h5⟩:=ze hj (by omega);rw[hk]at h3;have mx:decide (lf.length+1<maxRow)=true:=decide_eq_true (by unfold maxRow;omega);have mx1:decide (1<maxRow)=true:=by decide
 skip
 unfold w6;rw[zq];simp -implicitDefEqProofs only[go_sem,simprocAttr,zy,xx,w8,i8,h1,h2,h3,h4,e13,mx,mx1]
 try rfl
theorem yqk(N:List Int)(Q:List V)(bI:Bool)(I:List Int)(w sum:Int)(j:Nat)(hj:j<N.length)(hN8:N.length≤8)(rp lf:List Int)(hlf:lf.length≤8)(k:Int)(hk:N[j]=k)(e13:(zu T).call 13 [.sl true 1 (rp.map zx),.int .i64 k] [] 0 []=some (.bool true,[],0,[])):
  w6 be es Y N Q bI I w (.ref 3) (.sl false 0 []) sum j 0 [.cells false true 3 (rp.map zx)]=w6 be es Y N Q bI I w (.ref 3) (.sl false 0 []) sum (j+1) 8 [.cells false true 3 (rp.map zx)]:=by
 obtain⟨h1,h2,h3,h4,h5⟩:=ze hj (by omega);rw[hk]at h3;have mx:decide (lf.length+1<maxRow)=true:=decide_eq_true (by unfold maxRow;omega);have mx1:decide (1<maxRow)=true:=by decide
 skip
 unfold w6;rw[zq];simp -implicitDefEqProofs only[go_sem,simprocAttr,zy,xx,w8,i8,h1,h2,h3,h4,e13,mx,mx1]
 try rfl
theorem yqj(N:List Int)(Q:List V)(bI:Bool)(I:List Int)(w sum:Int)(j:Nat)(hj:j<N.length)(hN8:N.length≤8)(rp lf:List Int)(hlf:lf.length≤8)(k:Int)(hk:N[j]=k)(e13:(zu T).call 13 [.sl true 1 (rp.map zx),.int .i64 k] [] 0 []=some (.bool false,[],0,[])):
  w6 be es Y N Q bI I w (.ref 3) (.sl false 0 []) sum j 8 [.cells false true 3 (rp.map zx)]=w6 be es Y N Q bI I w (.ref 3) (.ref 4) sum (j+1) 8 [.cells false true 3 (rp.map zx),.cells false true 3 (List.map zx [k])]:=by
 obtain⟨h1,h2,h3,h4,h5⟩:=ze hj (by omega);rw[hk]at h3;have mx:decide (lf.length+1<maxRow)=true:=decide_eq_true (by unfold maxRow;omega);have mx1:decide (1<maxRow)=true:=by decide
 skip
 unfold w6;rw[zq];simp -implicitDefEqProofs only[go_sem,simprocAttr,zy,xx,w8,i8,h1,h2,h3,h4,e13,mx,mx1]
 try rfl
theorem yqi(N:List Int)(Q:List V)(bI:Bool)(I:List Int)(w sum:Int)(j:Nat)(hj:j<N.length)(hN8:N.length≤8)(rp lf:List Int)(hlf:lf.length≤8)(k:Int)(hk:N[j]=k)(e13:(zu T).call 13 [.sl true 1 (rp.map zx),.int .i64 k] [] 0 []=some (.bool true,[],0,[])):
  w6 be es Y N Q bI I w (.ref 3) (.sl false 0 []) sum j 8 [.cells false true 3 (rp.map zx)]=w6 be es Y N Q bI I w (.ref 3) (.sl false 0 []) sum (j+1) 8 [.cells false true 3 (rp.map zx)]:=by
 obtain⟨h1,h2,h3,h4,h5⟩:=ze hj (by omega);rw[hk]at h3;have mx:decide (lf.length+1<maxRow)=true:=decide_eq_true (by unfold maxRow;omega);have mx1:decide (1<maxRow)=true:=by decide
 skip
 unfold w6;rw[zq];simp -implicitDefEqProofs only[go_sem,simprocAttr,zy,xx,w8,i8,h1,h2,h3,h4,e13,mx,mx1]
 try rfl
theorem yqh(N:List Int)(Q:List V)(bI:Bool)(I:List Int)(w sum:Int)(j:Nat)(hj:j<N.length)(hN8:N.length≤8)(rp lf:List Int)(hlf:lf.length≤8)(k:Int)(hk:N[j]=k)(e13:(zu T).call 13 [.sl true 1 (rp.map zx),.int .i64 k] [] 0 []=some (.bool false,[],0,[])):
  w6 be es Y N Q bI I w (.ref 3) (.ref 4) sum j 8 [.cells false true 3 (rp.map zx),.cells false true 3 (lf.map zx)]=w6 be es Y N Q bI I w (.ref 3) (.ref 4) sum (j+1) 8 [.cells false true 3 (rp.map zx),.cells false true 3 ((lf++ [k]).map zx)]:=by
 obtain⟨h1,h2,h3,h4,h5⟩:=ze hj (by omega);rw[hk]at h3;have mx:decide (lf.length+1<maxRow)=true:=decide_eq_true (by unfold maxRow;omega);have mx1:decide (1<maxRow)=true:=by decide
 rw[List.map_append];unfold w6;rw[zq];simp -implicitDefEqProofs only[go_sem,simprocAttr,zy,xx,w8,i8,h1,h2,h3,h4,e13,mx,mx1]
 try rfl
theorem yqg(N:List Int)(Q:List V)(bI:Bool)(I:List Int)(w sum:Int)(j:Nat)(hj:j<N.length)(hN8:N.length≤8)(rp lf:List Int)(hlf:lf.length≤8)(k:Int)(hk:N[j]=k)(e13:(zu T).call 13 [.sl true 1 (rp.map zx),.int .i64 k] [] 0 []=some (.bool true,[],0,[])):
  w6 be es Y N Q bI I w (.ref 3) (.ref 4) sum j 8 [.cells false true 3 (rp.map zx),.cells false true 3 (lf.map zx)]=w6 be es Y N Q bI I w (.ref 3) (.ref 4) sum (j+1) 8 [.cells false true 3 (rp.map zx),.cells false true 3 (lf.map zx)]:=by
 obtain⟨h1,h2,h3,h4,h5⟩:=ze hj (by omega);rw[hk]at h3;have mx:decide (lf.length+1<maxRow)=true:=decide_eq_true (by unfold maxRow;omega);have mx1:decide (1<maxRow)=true:=by decide
 skip
 unfold w6;rw[zq];simp -implicitDefEqProofs only[go_sem,simprocAttr,zy,xx,w8,i8,h1,h2,h3,h4,e13,mx,mx1]
 try rfl
theorem gf:IntKind.i64.wrap 0=0:=rfl
variable (be:Bool) (es:List Int) (Y:Cx)
theorem ynk(N:List Int)(Q:List V)(hE:Q.isEmpty=false)(hid:zt Q= [])(hQ8:Q.length≤8)(bI:Bool)(I:List Int)(hI8:I.length≤8)(w sum way:Int)(rp lf M:List Int)(hr:((rp.length:Nat):Int)=0)(bO:Bool)(O:List Int)(hpr:0≤Y.pr∧Y.pr≤255)(bN:Bool)(L1 L2:List V)(nn:Int)(bv bc:Bool)
  (e11:(zu T).call 11 [jk (0,0) 0 Y.pr,.sl true 5 Q,.sl true 1 (I.map zx)] [] 0 []=some (.tup [.sl bO 1 (O.map zx),.int .i64 way,.int .i64 0],[],0,[]))
  (hO:O.length=I.length)(h0:decide (way<0)=false)(h1:decide (way>10000)=false)(hw:(w !=IntKind.i64.wrap (sum- IntKind.i64.wrap (Y.pr*way)))=false)
  (e14:(zu T).call 14 [zy be es Y,.sl false 0 []] [] 0 []=some (.tup [.agg [.sl bv 1 L1,.int .i64 nn,.sl bc 3 L2],k7 1 (M.map zx)],[],0,[]))
  (e15:(zu T).call 15 [.agg [.sl bv 1 L1,.int .i64 nn,.sl bc 3 L2]] [] 0 []=some (.tup [.sl true 1 [jx M],.int .i64 0],[],0,[]))
  (e19:∀b,(zu T).call 19 [.sl b 1 (M.map zx),.sl true 1 (lf.map zx)] [] 0 []=some (.bool true,[],0,[])):
  w6 be es Y N Q bI I w (.sl false 0 []) (.ref 3) sum N.length 0 [.cells false true 3 (lf.map zx)]=some (.ret (.bool true),[],0,[]):=by
 have h2:=xu N.length;have mx:decide (Q.length<maxRow)=true:=decide_eq_true (by unfold maxRow;omega);have my:decide (I.length<maxRow)=true:=decide_eq_true (by unfold maxRow;omega);simp only[jk,zy,xx,w8,i8,jx]at e11 e14 e15;unfold w6;cases hI:I with
 |nil=>
  rw[hI]at e11 hO;have hO:((O.length:Nat):Int)=0:=by rw[hO];rfl
  simp only[List.map_nil]at e11;rw[zq];simp (maxSteps:=2000000) -implicitDefEqProofs only[go_sem,simprocAttr,zy,xx,w8,i8,h2,e11,hO,h0,h1,hw,e14,e15,e19,hr,uo,vp,bne_self_eq_false,hE,mx,hid,List.isEmpty_nil]
  done
 |cons a r=>
  rw[hI]at e11 hO my;have hO:((O.length:Nat):Int)=((r.length+1:Nat):Int):=by rw[hO];rfl
  simp only[List.map_cons,zx,List.length_cons]at e11 my;rw[zq];simp (maxSteps:=2000000) -implicitDefEqProofs only[go_sem,simprocAttr,zy,xx,w8,i8,h2,e11,hO,h0,h1,hw,e14,e15,e19,hr,uo,vp,bne_self_eq_false,hE,mx,my,hid,List.isEmpty_nil]
  done
theorem ynj(N:List Int)(Q:List V)(hE:Q.isEmpty=false)(hid:zt Q= [])(hQ8:Q.length≤8)(bI:Bool)(I:List Int)(hI8:I.length≤8)(w sum way:Int)(rp lf M:List Int)(hr:((rp.length:Nat):Int)=1)(bO:Bool)(O:List Int)(hpr:0≤Y.pr∧Y.pr≤255)(bN:Bool)(L1 L2:List V)(nn:Int)(bv bc:Bool)
  (e11:(zu T).call 11 [jk (0,0) 0 Y.pr,.sl true 5 Q,.sl true 1 (I.map zx)] [] 0 []=some (.tup [.sl bO 1 (O.map zx),.int .i64 way,.int .i64 0],[],0,[]))
  (hO:O.length=I.length)(h0:decide (way<0)=false)(h1:decide (way>10000)=false)(hw:(w !=IntKind.i64.wrap (sum- IntKind.i64.wrap (Y.pr*way)))=false)
  (e14:(zu T).call 14 [zy be es Y,.sl true 1 (rp.map zx)] [] 0 []=some (.tup [.agg [.sl bv 1 L1,.int .i64 nn,.sl bc 3 L2],k7 1 (M.map zx)],[],0,[]))
  (e15:(zu T).call 15 [.agg [.sl bv 1 L1,.int .i64 nn,.sl bc 3 L2]] [] 0 []=some (.tup [.sl true 1 [jx M],.int .i64 0],[],0,[]))
  (e19:∀b,(zu T).call 19 [.sl b 1 (M.map zx),.sl false 0 []] [] 0 []=some (.bool true,[],0,[])):
  w6 be es Y N Q bI I w (.ref 3) (.sl false 0 []) sum N.length 8 [.cells false true 3 (rp.map zx)]=some (.ret (.bool true),[],0,[]):=by
 have h2:=xu N.length;have mx:decide (Q.length<maxRow)=true:=decide_eq_true (by unfold maxRow;omega);have my:decide (I.length<maxRow)=true:=decide_eq_true (by unfold maxRow;omega);simp only[jk,zy,xx,w8,i8,jx]at e11 e14 e15;unfold w6;cases hI:I with
 |nil=>
  rw[hI]at e11 hO;have hO:((O.length:Nat):Int)=0:=by rw[hO];rfl
  simp only[List.map_nil]at e11;rw[zq];simp (maxSteps:=2000000) -implicitDefEqProofs only[go_sem,simprocAttr,zy,xx,w8,i8,h2,e11,hO,h0,h1,hw,e14,e15,e19,hr,zgn,gf,gj,gq,uo,vp,bne_self_eq_false,hE,mx,hid,List.isEmpty_nil]
  done
 |cons a r=>
  rw[hI]at e11 hO my;have hO:((O.length:Nat):Int)=((r.length+1:Nat):Int):=by rw[hO];rfl
  simp only[List.map_cons,zx,List.length_cons]at e11 my;rw[zq];simp (maxSteps:=2000000) -implicitDefEqProofs only[go_sem,simprocAttr,zy,xx,w8,i8,h2,e11,hO,h0,h1,hw,e14,e15,e19,hr,zgn,gf,gj,gq,uo,vp,bne_self_eq_false,hE,mx,my,hid,List.isEmpty_nil]
  done
theorem yng(N:List Int)(Q:List V)(hE:Q.isEmpty=false)(hid:zt Q= [])(hQ8:Q.length≤8)(bI:Bool)(I:List Int)(hI8:I.length≤8)(w sum way:Int)(rp lf M:List Int)(hr:((rp.length:Nat):Int)=1)(bO:Bool)(O:List Int)(hpr:0≤Y.pr∧Y.pr≤255)(bN:Bool)(L1 L2:List V)(nn:Int)(bv bc:Bool)
  (e11:(zu T).call 11 [jk (0,0) 0 Y.pr,.sl true 5 Q,.sl true 1 (I.map zx)] [] 0 []=some (.tup [.sl bO 1 (O.map zx),.int .i64 way,.int .i64 0],[],0,[]))
  (hO:O.length=I.length)(h0:decide (way<0)=false)(h1:decide (way>10000)=false)(hw:(w !=IntKind.i64.wrap (sum- IntKind.i64.wrap (Y.pr*way)))=false)
  (e14:(zu T).call 14 [zy be es Y,.sl true 1 (rp.map zx)] [] 0 []=some (.tup [.agg [.sl bv 1 L1,.int .i64 nn,.sl bc 3 L2],k7 1 (M.map zx)],[],0,[]))
  (e15:(zu T).call 15 [.agg [.sl bv 1 L1,.int .i64 nn,.sl bc 3 L2]] [] 0 []=some (.tup [.sl true 1 [jx M],.int .i64 0],[],0,[]))
  (e19:∀b,(zu T).call 19 [.sl b 1 (M.map zx),.sl true 1 (lf.map zx)] [] 0 []=some (.bool true,[],0,[])):
  w6 be es Y N Q bI I w (.ref 3) (.ref 4) sum N.length 8 [.cells false true 3 (rp.map zx),.cells false true 3 (lf.map zx)]=some (.ret (.bool true),[],0,[]):=by
 have h2:=xu N.length;have mx:decide (Q.length<maxRow)=true:=decide_eq_true (by unfold maxRow;omega);have my:decide (I.length<maxRow)=true:=decide_eq_true (by unfold maxRow;omega);simp only[jk,zy,xx,w8,i8,jx]at e11 e14 e15;unfold w6;cases hI:I with
 |nil=>
  rw[hI]at e11 hO;have hO:((O.length:Nat):Int)=0:=by rw[hO];rfl
  simp only[List.map_nil]at e11;rw[zq];simp (maxSteps:=2000000) -implicitDefEqProofs only[go_sem,simprocAttr,zy,xx,w8,i8,h2,e11,hO,h0,h1,hw,e14,e15,e19,hr,zgn,gf,gj,gq,uo,vp,bne_self_eq_false,hE,mx,hid,List.isEmpty_nil]
  done
 |cons a r=>
  rw[hI]at e11 hO my;have hO:((O.length:Nat):Int)=((r.length+1:Nat):Int):=by rw[hO];rfl
  simp only[List.map_cons,zx,List.length_cons]at e11 my;rw[zq];simp (maxSteps:=2000000) -implicitDefEqProofs only[go_sem,simprocAttr,zy,xx,w8,i8,h2,e11,hO,h0,h1,hw,e14,e15,e19,hr,zgn,gf,gj,gq,uo,vp,bne_self_eq_false,hE,mx,my,hid,List.isEmpty_nil]
  done
theorem yni(N:List Int)(Q:List V)(hE:Q.isEmpty=false)(hid:zt Q= [])(hQ8:Q.length≤8)(bI:Bool)(I:List Int)(hI8:I.length≤8)(w sum way:Int)(rp lf M:List Int)(hr:((rp.length:Nat):Int)=2)(bO:Bool)(O:List Int)(hpr:0≤Y.pr∧Y.pr≤255)(bN:Bool)(L1 L2:List V)(nn:Int)(bv bc:Bool)
  (e11:(zu T).call 11 [jk (0,0) 0 Y.pr,.sl true 5 Q,.sl true 1 (I.map zx)] [] 0 []=some (.tup [.sl bO 1 (O.map zx),.int .i64 way,.int .i64 0],[],0,[]))
  (hO:O.length=I.length)(h0:decide (way<0)=false)(h1:decide (way>10000)=false)(hw:(w !=IntKind.i64.wrap (sum- IntKind.i64.wrap (Y.pr*way)))=false)
  (e14:(zu T).call 14 [zy be es Y,.sl true 1 (rp.map zx)] [] 0 []=some (.tup [.agg [.sl bv 1 L1,.int .i64 nn,.sl bc 3 L2],k7 1 (M.map zx)],[],0,[]))
  (e15:(zu T).call 15 [.agg [.sl bv 1 L1,.int .i64 nn,.sl bc 3 L2]] [] 0 []=some (.tup [.sl true 1 [jx M],.int .i64 0],[],0,[]))
  (e19:∀b,(zu T).call 19 [.sl b 1 (M.map zx),.sl false 0 []] [] 0 []=some (.bool true,[],0,[])):
  w6 be es Y N Q bI I w (.ref 3) (.sl false 0 []) sum N.length 8 [.cells false true 3 (rp.map zx)]=some (.ret (.bool true),[],0,[]):=by
 have h2:=xu N.length;have mx:decide (Q.length<maxRow)=true:=decide_eq_true (by unfold maxRow;omega);have my:decide (I.length<maxRow)=true:=decide_eq_true (by unfold maxRow;omega);simp only[jk,zy,xx,w8,i8,jx]at e11 e14 e15;unfold w6;cases hI:I with
 |nil=>
  rw[hI]at e11 hO;have hO:((O.length:Nat):Int)=0:=by rw[hO];rfl
  simp only[List.map_nil]at e11;rw[zq];simp (maxSteps:=2000000) -implicitDefEqProofs only[go_sem,simprocAttr,zy,xx,w8,i8,h2,e11,hO,h0,h1,hw,e14,e15,e19,hr,zgm,gf,gj,gq,uo,vp,bne_self_eq_false,hE,mx,hid,List.isEmpty_nil]
  done
 |cons a r=>
  rw[hI]at e11 hO my;have hO:((O.length:Nat):Int)=((r.length+1:Nat):Int):=by rw[hO];rfl
  simp only[List.map_cons,zx,List.length_cons]at e11 my;rw[zq];simp (maxSteps:=2000000) -implicitDefEqProofs only[go_sem,simprocAttr,zy,xx,w8,i8,h2,e11,hO,h0,h1,hw,e14,e15,e19,hr,zgm,gf,gj,gq,uo,vp,bne_self_eq_false,hE,mx,my,hid,List.isEmpty_nil]
  done
theorem ynf(N:List Int)(Q:List V)(hE:Q.isEmpty=false)(hid:zt Q= [])(hQ8:Q.length≤8)(bI:Bool)(I:List Int)(hI8:I.length≤8)(w sum way:Int)(rp lf M:List Int)(hr:((rp.length:Nat):Int)=2)(bO:Bool)(O:List Int)(hpr:0≤Y.pr∧Y.pr≤255)(bN:Bool)(L1 L2:List V)(nn:Int)(bv bc:Bool)
  (e11:(zu T).call 11 [jk (0,0) 0 Y.pr,.sl true 5 Q,.sl true 1 (I.map zx)] [] 0 []=some (.tup [.sl bO 1 (O.map zx),.int .i64 way,.int .i64 0],[],0,[]))
  (hO:O.length=I.length)(h0:decide (way<0)=false)(h1:decide (way>10000)=false)(hw:(w !=IntKind.i64.wrap (sum- IntKind.i64.wrap (Y.pr*way)))=false)
  (e14:(zu T).call 14 [zy be es Y,.sl true 1 (rp.map zx)] [] 0 []=some (.tup [.agg [.sl bv 1 L1,.int .i64 nn,.sl bc 3 L2],k7 1 (M.map zx)],[],0,[]))
  (e15:(zu T).call 15 [.agg [.sl bv 1 L1,.int .i64 nn,.sl bc 3 L2]] [] 0 []=some (.tup [.sl true 1 [jx M],.int .i64 0],[],0,[]))
  (e19:∀b,(zu T).call 19 [.sl b 1 (M.map zx),.sl true 1 (lf.map zx)] [] 0 []=some (.bool true,[],0,[])):
  w6 be es Y N Q bI I w (.ref 3) (.ref 4) sum N.length 8 [.cells false true 3 (rp.map zx),.cells false true 3 (lf.map zx)]=some (.ret (.bool true),[],0,[]):=by
 have h2:=xu N.length;have mx:decide (Q.length<maxRow)=true:=decide_eq_true (by unfold maxRow;omega);have my:decide (I.length<maxRow)=true:=decide_eq_true (by unfold maxRow;omega);simp only[jk,zy,xx,w8,i8,jx]at e11 e14 e15;unfold w6;cases hI:I with
 |nil=>
  rw[hI]at e11 hO;have hO:((O.length:Nat):Int)=0:=by rw[hO];rfl
  simp only[List.map_nil]at e11;rw[zq];simp (maxSteps:=2000000) -implicitDefEqProofs only[go_sem,simprocAttr,zy,xx,w8,i8,h2,e11,hO,h0,h1,hw,e14,e15,e19,hr,zgm,gf,gj,gq,uo,vp,bne_self_eq_false,hE,mx,hid,List.isEmpty_nil]
  done
 |cons a r=>
  rw[hI]at e11 hO my;have hO:((O.length:Nat):Int)=((r.length+1:Nat):Int):=by rw[hO];rfl
  simp only[List.map_cons,zx,List.length_cons]at e11 my;rw[zq];simp (maxSteps:=2000000) -implicitDefEqProofs only[go_sem,simprocAttr,zy,xx,w8,i8,h2,e11,hO,h0,h1,hw,e14,e15,e19,hr,zgm,gf,gj,gq,uo,vp,bne_self_eq_false,hE,mx,my,hid,List.isEmpty_nil]
  done
theorem ynh(N:List Int)(Q:List V)(hE:Q.isEmpty=false)(hid:zt Q= [])(hQ8:Q.length≤8)(bI:Bool)(I:List Int)(hI8:I.length≤8)(w sum way:Int)(rp lf M:List Int)(hr:((rp.length:Nat):Int)=3)(bO:Bool)(O:List Int)(hpr:0≤Y.pr∧Y.pr≤255)(bN:Bool)(L1 L2:List V)(nn:Int)(bv bc:Bool)
  (e11:(zu T).call 11 [jk (0,0) 0 Y.pr,.sl true 5 Q,.sl true 1 (I.map zx)] [] 0 []=some (.tup [.sl bO 1 (O.map zx),.int .i64 way,.int .i64 0],[],0,[]))
  (hO:O.length=I.length)(h0:decide (way<0)=false)(h1:decide (way>10000)=false)(hw:(w !=IntKind.i64.wrap (sum- IntKind.i64.wrap (Y.pr*way)))=false)
  (e14:(zu T).call 14 [zy be es Y,.sl true 1 (rp.map zx)] [] 0 []=some (.tup [.agg [.sl bv 1 L1,.int .i64 nn,.sl bc 3 L2],k7 1 (M.map zx)],[],0,[]))
  (e15:(zu T).call 15 [.agg [.sl bv 1 L1,.int .i64 nn,.sl bc 3 L2]] [] 0 []=some (.tup [.sl true 1 [jx M],.int .i64 0],[],0,[]))
  (e19:∀b,(zu T).call 19 [.sl b 1 (M.map zx),.sl false 0 []] [] 0 []=some (.bool true,[],0,[])):
  w6 be es Y N Q bI I w (.ref 3) (.sl false 0 []) sum N.length 8 [.cells false true 3 (rp.map zx)]=some (.ret (.bool true),[],0,[]):=by
 have h2:=xu N.length;have mx:decide (Q.length<maxRow)=true:=decide_eq_true (by unfold maxRow;omega);have my:decide (I.length<maxRow)=true:=decide_eq_true (by unfold maxRow;omega);simp only[jk,zy,xx,w8,i8,jx]at e11 e14 e15;unfold w6;cases hI:I with
 |nil=>
  rw[hI]at e11 hO;have hO:((O.length:Nat):Int)=0:=by rw[hO];rfl
  simp only[List.map_nil]at e11;rw[zq];simp (maxSteps:=2000000) -implicitDefEqProofs only[go_sem,simprocAttr,zy,xx,w8,i8,h2,e11,hO,h0,h1,hw,e14,e15,e19,hr,zgl,gf,gj,gq,uo,vp,bne_self_eq_false,hE,mx,hid,List.isEmpty_nil]
  done
 |cons a r=>
  rw[hI]at e11 hO my;have hO:((O.length:Nat):Int)=((r.length+1:Nat):Int):=by rw[hO];rfl
  simp only[List.map_cons,zx,List.length_cons]at e11 my;rw[zq];simp (maxSteps:=2000000) -implicitDefEqProofs only[go_sem,simprocAttr,zy,xx,w8,i8,h2,e11,hO,h0,h1,hw,e14,e15,e19,hr,zgl,gf,gj,gq,uo,vp,bne_self_eq_false,hE,mx,my,hid,List.isEmpty_nil]
  done
theorem yne(N:List Int)(Q:List V)(hE:Q.isEmpty=false)(hid:zt Q= [])(hQ8:Q.length≤8)(bI:Bool)(I:List Int)(hI8:I.length≤8)(w sum way:Int)(rp lf M:List Int)(hr:((rp.length:Nat):Int)=3)(bO:Bool)(O:List Int)(hpr:0≤Y.pr∧Y.pr≤255)(bN:Bool)(L1 L2:List V)(nn:Int)(bv bc:Bool)
  (e11:(zu T).call 11 [jk (0,0) 0 Y.pr,.sl true 5 Q,.sl true 1 (I.map zx)] [] 0 []=some (.tup [.sl bO 1 (O.map zx),.int .i64 way,.int .i64 0],[],0,[]))
  (hO:O.length=I.length)(h0:decide (way<0)=false)(h1:decide (way>10000)=false)(hw:(w !=IntKind.i64.wrap (sum- IntKind.i64.wrap (Y.pr*way)))=false)
  (e14:(zu T).call 14 [zy be es Y,.sl true 1 (rp.map zx)] [] 0 []=some (.tup [.agg [.sl bv 1 L1,.int .i64 nn,.sl bc 3 L2],k7 1 (M.map zx)],[],0,[]))
  (e15:(zu T).call 15 [.agg [.sl bv 1 L1,.int .i64 nn,.sl bc 3 L2]] [] 0 []=some (.tup [.sl true 1 [jx M],.int .i64 0],[],0,[]))
  (e19:∀b,(zu T).call 19 [.sl b 1 (M.map zx),.sl true 1 (lf.map zx)] [] 0 []=some (.bool true,[],0,[])):
  w6 be es Y N Q bI I w (.ref 3) (.ref 4) sum N.length 8 [.cells false true 3 (rp.map zx),.cells false true 3 (lf.map zx)]=some (.ret (.bool true),[],0,[]):=by
 have h2:=xu N.length;have mx:decide (Q.length<maxRow)=true:=decide_eq_true (by unfold maxRow;omega);have my:decide (I.length<maxRow)=true:=decide_eq_true (by unfold maxRow;omega);simp only[jk,zy,xx,w8,i8,jx]at e11 e14 e15;unfold w6;cases hI:I with
 |nil=>
  rw[hI]at e11 hO;have hO:((O.length:Nat):Int)=0:=by rw[hO];rfl
  simp only[List.map_nil]at e11;rw[zq];simp (maxSteps:=2000000) -implicitDefEqProofs only[go_sem,simprocAttr,zy,xx,w8,i8,h2,e11,hO,h0,h1,hw,e14,e15,e19,hr,zgl,gf,gj,gq,uo,vp,bne_self_eq_false,hE,mx,hid,List.isEmpty_nil]
  done
 |cons a r=>
  rw[hI]at e11 hO my;have hO:((O.length:Nat):Int)=((r.length+1:Nat):Int):=by rw[hO];rfl
  simp only[List.map_cons,zx,List.length_cons]at e11 my;rw[zq];simp (maxSteps:=2000000) -implicitDefEqProofs only[go_sem,simprocAttr,zy,xx,w8,i8,h2,e11,hO,h0,h1,hw,e14,e15,e19,hr,zgl,gf,gj,gq,uo,vp,bne_self_eq_false,hE,mx,my,hid,List.isEmpty_nil]
  done
variable (be:Bool) (es:List Int) (Y:Cx)
theorem ynd(R7:List V)(bM:Bool)(Nm:List (List UInt8))(bI:Bool)(hpr:0≤Y.pr∧Y.pr≤255)(hn:0≤Y.n∧Y.n≤255)(L1 L2:List V)(nn:Int)(bv bc:Bool)
  (e21:(zu T).call 21 [jk (0,0) 0 Y.pr,.sl true 5 []] [] 0 []=some (.tup [.sl bI 1 [],.int .i64 0,.int .i64 0],[],0,[]))
  (e22:(zu T).call 22 [jk (0,0) 0 Y.pr,.sl true 5 [],.int .i64 Y.n] [] 0 []=some (.tup [.int .i64 0,.int .i64 0],[],0,[]))
  (e11:(zu T).call 11 [jk (0,0) 0 Y.pr,.sl true 5 [],.sl true 1 []] [] 0 []=some (.tup [.sl false 1 [],.int .i64 0,.int .i64 0],[],0,[]))
  (e14:(zu T).call 14 [zy be es Y,.sl false 0 []] [] 0 []=some (.tup [.agg [.sl bv 1 L1,.int .i64 nn,.sl bc 3 L2],.sl false 0 []],[],0,[]))
  (e15:(zu T).call 15 [.agg [.sl bv 1 L1,.int .i64 nn,.sl bc 3 L2]] [] 0 []=some (.tup [.sl true 1 [.sl false 1 []],.int .i64 0],[],0,[]))
  (e19:∀b,(zu T).call 19 [.sl b 1 [],.sl false 0 []] [] 0 []=some (.bool true,[],0,[])):
  jn be es Y [] R7 bM Nm 0 (.sl false 0 []) []=some (.ret (.bool true),[],0,[]):=by
 have w1:=zd (a:=Y.pr) (by omega);have w2:=zd (a:=Y.n) (by omega);have w3:IntKind.i64.wrap (0- IntKind.i64.wrap (Y.pr*0))=0:=by rw[Int.mul_zero];rfl
 have w4:IntKind.i64.wrap (0- IntKind.i64.wrap 0)=0:=rfl;unfold jn;simp only[jk,zy,xx,w8,i8,List.map_nil,List.isEmpty_nil,Bool.not_true]at e21 e22 e11 e14 e15⊢;rw[zq];simp (maxSteps:=2000000) -implicitDefEqProofs only[go_sem,simprocAttr,zy,xx,w8,i8,w1,w2,e21,e22];rw[zq];simp (maxSteps:=2000000) -implicitDefEqProofs only[go_sem,simprocAttr,zy,xx,w8,i8];rw[zq];simp (maxSteps:=2000000) -implicitDefEqProofs only[go_sem,simprocAttr,zy,xx,w8,i8,e11,e14,e15,e19,w3,w4,Int.mul_zero,uo]
theorem yic(x:Rq)(rp:List Int)(k j:Nat):x.lost rp k j=if(rp.any fun y=>y==(k:Int))=true then 0 else x.lost [] k j:=by
 by_cases hk:k<3
 ·rw[ju x rp k j hk,ju x [] k j hk]
  cases rp.any fun y=>y==(k:Int)<;>rfl
 ·rw[ze2 x rp k j (by omega),ze2 x [] k j (by omega)]
  split<;>rfl
theorem yte{x:Rq}(hn:0≤x.n)(rp:List Int)(k:Nat):jq x rp k=(jq x [] k&& !(rp.any fun y=>y==(k:Int))):=by
 unfold jq;cases h:rp.any fun y=>y==(k:Int)
 ·have e:(fun j=>decide (x.n<x.lost rp k j))=fun j=>decide (x.n<x.lost [] k j):=funext fun j=>by rw[yic x rp k j,h];rfl
  rw[e];simp
 ·have e:(fun j=>decide (x.n<x.lost rp k j))=fun _=>false:=funext fun j=>by
   rw[yic x rp k j,h];exact decide_eq_false (by simp;omega)
  rw[e];simp
theorem ytc{x:Rq}(hn:0≤x.n)(rp:List Int):nd x rp=(nd x []).filter fun k=> !(rp.any fun y=>y==k):=by
 unfold nd;rw[List.filter_map,List.filter_filter];congr 1;refine List.filter_congr fun k _=> ?_;rw[yte hn rp k,Bool.and_comm];rfl
theorem yh1{x:Rq}(hx:x.ok):nd x []∈ [[],[0],[1],[2],[0,1],[0,2],[1,2],[(0:Int),1,2]]:=by
 rw[←zhj hx []];cases jq x [] 0<;>cases jq x [] 1<;>cases jq x [] 2<;>simp
theorem zbv{x:Rq}(hx:x.ok)(k:Nat):0≤uv x k∧uv x k≤200000:=by
 have h0:=zb6 hx k 0;have h1:=zb6 hx k 1;have h2:=zb6 hx k 2;have g0:=hx.e 0;have g1:=hx.e 1;have g2:=hx.e 2;unfold uv;split<;>omega
def Ss(x:Rq)(pp:Nat→Int×Int)(N:List Int):List Sd:=N.map fun k=>sdx x pp k.toNat
def isN(N:List Int):Prop:=N∈ [[],[0],[1],[2],[0,1],[0,2],[1,2],[(0:Int),1,2]]
theorem zm3{N:List Int}(h:isN N):N.length≤3:=by
 have:∀N∈ [[],[0],[1],[2],[0,1],[0,2],[1,2],[(0:Int),1,2]],N.length≤3:=by decide
 exact this N h
theorem yio{N:List Int}(h:isN N):∀k∈N,k=0∨k=1∨k=2:=by
 have:∀N∈ [[],[0],[1],[2],[0,1],[0,2],[1,2],[(0:Int),1,2]],∀k∈N,k=0∨k=1∨k=2:=by decide
 exact this N h
theorem ywy{N:List Int}(h:isN N):N.Pairwise (· < ·):=by
 have:∀N∈ [[],[0],[1],[2],[0,1],[0,2],[1,2],[(0:Int),1,2]],N.Pairwise (· < ·):=by decide
 exact this N h
def um(p:Int×Int):Prop:= -128≤p.1∧p.1≤127∧ -128≤p.2∧p.2≤127
theorem zm7{p:Int×Int}(h:um p):uh p:=by unfold um at h;unfold uh;omega
theorem yri{Y:Cx}(hp:Pok Y)(k:Nat):um (uq Y k):=by
 have:=hp.a;have:=hp.b;have:=hp.c;have:=hp.d;have:=hp.e;have:=hp.f;unfold uq um;split<;>(dsimp only;omega)
theorem nm3:∀a∈ [(0:Int),1,2],∀b∈ [(0:Int),1,2],a<b→(([99,97,117,115,101,UInt8.ofNat (48+b.toNat)]:List UInt8)== [99,97,117,115,101,UInt8.ofNat (48+a.toNat)])=false:=by decide
theorem nmB:∀a∈ [(0:Int),1,2],zb4 [99,97,117,115,101,UInt8.ofNat (48+a.toNat)]=true:=by decide
theorem zmr{N:List Int}(h:isN N){k:Int}(hk:k∈N):k∈ [(0:Int),1,2]:=by
 rcases yio h k hk with rfl|rfl|rfl<;>simp
theorem yll{x:Rq}(hx:x.ok){pp:Nat→Int×Int}(hp:∀k,um (pp k)){N:List Int}(h:isN N):OkS (Ss x pp N) where
 nm:=fun s hs=>by
  obtain⟨k,hk,rfl⟩:=List.mem_map.1 hs;have e:=ykt (sdx x pp k.toNat).nm (by show 6<1000000;decide);rw[show zb4 (sdx x pp k.toNat).nm=true from nmB k (zmr h hk)]at e;exact e
 dis:=fun i j hi hj=>by
  have hj':j<N.length:=by simpa[Ss]using hj
  simp only[Ss,List.getElem_map];exact nm3 _ (zmr h (List.getElem_mem _)) _ (zmr h (List.getElem_mem _)) (List.pairwise_iff_getElem.1 (ywy h) i j (by omega) hj' hi)
 p:=fun s hs=>by
  obtain⟨k,hk,rfl⟩:=List.mem_map.1 hs;exact zm7 (hp _)
 w:=fun s hs=>by
  obtain⟨k,hk,rfl⟩:=List.mem_map.1 hs;have:=zbv hx k.toNat;show 0≤uv x k.toNat∧uv x k.toNat≤1000000;omega
 t:=fun s hs=>by
  obtain⟨k,hk,rfl⟩:=List.mem_map.1 hs;exact⟨Int.le_refl _,(by decide:(0:Int)≤10000)⟩
 len:=by have:=zm3 h;rw[Ss,List.length_map];omega
def zaj(n:Nat):List Int→Bool
 | []=>true
 | [a]=>decide (0≤a∧a<(n:Int))
 | [a,b]=>decide (0≤a∧a<b∧b<(n:Int))
 | [a,b,c]=>decide (0≤a∧a<b∧b<c∧c<(n:Int))
 |_=>false
theorem ynn:∀n,n≤3→∀I∈ []::subs n,zaj n I=true:=by
 have:∀n:_root_.Fin 4,∀I∈ []::subs n.val,zaj n.val I=true:=by decide
 intro n hn I hI;exact this ⟨n,by omega⟩ I hI
theorem zim{n:Nat}{I:List Int}(h:zaj n I=true):I.length≤3∧I.length≤n:=by
 unfold zaj at h;split at h<;>simp at h<;>simp<;>omega
theorem xcy{n:Nat}{I:List Int}(h:zaj n I=true):OkO true n I:=by
 have hl:=zim h;unfold zaj at h;split at h
 ·exact⟨(fun i hi=>by cases hi),(fun h=>by cases h),(fun _ i _ hi=>by simp at hi),by simp⟩
 ·rename_i a
  have h:=of_decide_eq_true h;refine⟨fun i hi=> ?_,(fun h=>by cases h),fun _ i h1 h2=> ?_,by simp⟩
  ·simp at hi;omega
  ·simp at h2;omega
 ·rename_i a b
  have h:=of_decide_eq_true h;refine⟨fun i hi=> ?_,(fun h=>by cases h),fun _ i h1 h2=> ?_,by simp⟩
  ·simp at hi;omega
  ·simp at h2
   have:i=1:=by omega
   subst this;simp;omega
 ·rename_i a b c
  have h:=of_decide_eq_true h;refine⟨fun i hi=> ?_,(fun h=>by cases h),fun _ i h1 h2=> ?_,by simp⟩
  ·simp at hi;omega
  ·simp at h2
   have:i=1∨i=2:=by omega
   rcases this with rfl|rfl
   ·simp;omega
   ·simp;omega
 ·cases h
theorem ymy{l:List Sd}(hw:∀s∈l,0≤s.w)(hl:l.length≤3){I:List Int}(hI:I∈ []::subs l.length):0≤wsum l I∧wsum l I≤(l.map (·.w)).sum:=by
 match l,hl with
 | [],_=>simp[subs]at hI;subst hI;simp[wsum]
 | [s0],_=>
  have h0:=hw s0 (by simp);simp[subs]at hI;rcases hI with rfl|rfl<;>simp[wsum,wAt]<;>omega
 | [s0,s1],_=>
  have h0:=hw s0 (by simp);have h1:=hw s1 (by simp);simp[subs]at hI;rcases hI with rfl|rfl|rfl|rfl<;>simp[wsum,wAt]<;>omega
 | [s0,s1,s2],_=>
  have h0:=hw s0 (by simp);have h1:=hw s1 (by simp);have h2:=hw s2 (by simp);simp[subs]at hI;rcases hI with rfl|rfl|rfl|rfl|rfl|rfl|rfl|rfl<;>simp[wsum,wAt]<;>omega
 |_::_::_::_::_,h=>simp at h
theorem zdt(x:Rq)(pp:Nat→Int×Int)(N:List Int)(a:Int)(h:0≤a∧a<(N.length:Int)):∃k,N[a.toNat]? =some k∧((Ss x pp N).map qi)[a.toNat]? =some (.agg [.str (sdx x pp k.toNat).nm,.int .i64 (pp k.toNat).1,.int .i64 (pp k.toNat).2,.int .i64 (uv x k.toNat),.int .i64 0])∧wAt (Ss x pp N) a=uv x k.toNat∧N.getD a.toNat 0=k:=by
 have hl:a.toNat<N.length:=by omega
 refine⟨N[a.toNat],List.getElem?_eq_getElem hl,?_,?_,?_⟩
 ·rw[List.getElem?_eq_getElem (by simpa[Ss]using hl)]
  simp only[Ss,List.getElem_map];rfl
 ·unfold wAt
  rw[List.getElem?_eq_getElem (by simpa[Ss]using hl)];simp only[Ss,List.getElem_map];rfl
 ·simp[List.getD_eq_getElem?_getD,hl]
def j6(N I:List Int):List Int:=I.map fun i=>N.getD i.toNat 0
variable (be:Bool) (es:List Int) (Y:Cx)
theorem yut{x:Rq}(hx:x.ok)(pp:Nat→Int×Int)(N:List Int)(bI:Bool)(I:List Int)(w:Int)(hI:zaj N.length I=true)(hne:I≠ []):
  ∃last,gn be es Y N ((Ss x pp N).map qi) bI I w 0 (.sl false 0 []) (-1) 0 []=gn be es Y N ((Ss x pp N).map qi) bI I w I.length (.ref 3) last (wsum (Ss x pp N) I) [.cells false true 3 ((j6 N I).map zx)]:=by
 have hlen:(((Ss x pp N).map qi).length:Int)=(N.length:Int):=by simp[Ss]
 unfold zaj at hI;split at hI
 ·exact absurd rfl hne
 ·rename_i a
  have hI:=of_decide_eq_true hI;obtain⟨ka,na,qa,wa,ga⟩:=zdt x pp N a (by omega);have ba:=zbv hx ka.toNat;have hs:wsum (Ss x pp N) [a]=(0+uv x ka.toNat):=by simp[wsum,wa]
  have hr:j6 N [a]= [ka]:=by simp only[j6,List.map_cons,List.map_nil,ga]
  rw[hs,hr];refine⟨a,?_⟩;exact zlv be es Y N _ bI [a] w 0 (by simp) (by simp) (-1) 0 a ka (uv x ka.toNat) _ _ _ rfl (by omega) qa (by omega) na (by omega)
 ·rename_i a b
  have hI:=of_decide_eq_true hI;obtain⟨ka,na,qa,wa,ga⟩:=zdt x pp N a (by omega);have ba:=zbv hx ka.toNat;obtain⟨kb,nb,qb,wb,gb⟩:=zdt x pp N b (by omega);have bb:=zbv hx kb.toNat;have hs:wsum (Ss x pp N) [a,b]=((0+uv x ka.toNat)+uv x kb.toNat):=by simp[wsum,wa,wb]
  have hr:j6 N [a,b]= [ka,kb]:=by simp only[j6,List.map_cons,List.map_nil,ga,gb]
  rw[hs,hr];refine⟨b,?_⟩;refine(zlv be es Y N _ bI [a,b] w 0 (by simp) (by simp) (-1) 0 a ka (uv x ka.toNat) _ _ _ rfl (by omega) qa (by omega) na (by omega)).trans ?_;exact zlu be es Y N _ bI [a,b] w 1 (by simp) (by simp) a (0+uv x ka.toNat) b kb (uv x kb.toNat) _ _ _ [ka] (by simp) rfl (by omega) qb (by omega) nb (by omega)
 ·rename_i a b c
  have hI:=of_decide_eq_true hI;obtain⟨ka,na,qa,wa,ga⟩:=zdt x pp N a (by omega);have ba:=zbv hx ka.toNat;obtain⟨kb,nb,qb,wb,gb⟩:=zdt x pp N b (by omega);have bb:=zbv hx kb.toNat;obtain⟨kc,nc,qc,wc,gc⟩:=zdt x pp N c (by omega);have bc:=zbv hx kc.toNat;have hs:wsum (Ss x pp N) [a,b,c]=(((0+uv x ka.toNat)+uv x kb.toNat)+uv x kc.toNat):=by simp[wsum,wa,wb,wc]
  have hr:j6 N [a,b,c]= [ka,kb,kc]:=by simp only[j6,List.map_cons,List.map_nil,ga,gb,gc]
  rw[hs,hr];refine⟨c,?_⟩;refine(zlv be es Y N _ bI [a,b,c] w 0 (by simp) (by simp) (-1) 0 a ka (uv x ka.toNat) _ _ _ rfl (by omega) qa (by omega) na (by omega)).trans ?_;refine(zlu be es Y N _ bI [a,b,c] w 1 (by simp) (by simp) a (0+uv x ka.toNat) b kb (uv x kb.toNat) _ _ _ [ka] (by simp) rfl (by omega) qb (by omega) nb (by omega)).trans ?_;exact zlu be es Y N _ bI [a,b,c] w 2 (by simp) (by simp) b ((0+uv x ka.toNat)+uv x kb.toNat) c kc (uv x kc.toNat) _ _ _ [ka,kb] (by simp) rfl (by omega) qc (by omega) nc (by omega)
 ·cases hI
def hLT(N:List Int)(Q:List V)(bI:Bool)(I:List Int)(w sum:Int)(rp lf:List Int)(j F:Nat):Option Out:=
 match rp,lf with
 | [],[]=>w6 be es Y N Q bI I w (.sl false 0 []) (.sl false 0 []) sum j F []
 | [],b::s=>w6 be es Y N Q bI I w (.sl false 0 []) (.ref 3) sum j F [.cells false true 3 ((b::s).map zx)]
 |a::r,[]=>w6 be es Y N Q bI I w (.ref 3) (.sl false 0 []) sum j F [.cells false true 3 ((a::r).map zx)]
 |a::r,b::s=>w6 be es Y N Q bI I w (.ref 3) (.ref 4) sum j F [.cells false true 3 ((a::r).map zx),.cells false true 3 ((b::s).map zx)]
def fzB(rp:List Int):Nat:=match rp with| []=>0|_=>8
theorem zpe(N:List Int)(Q:List V)(bI:Bool)(I:List Int)(w sum:Int)(rp lf:List Int)(j:Nat)(hj:j<N.length)(hN8:N.length≤8)(hlf:lf.length≤8)(hrp:rp.length<1000)(F:Nat)(hF:(F=0∧lf= [])∨F=fzB rp):
  hLT be es Y N Q bI I w sum rp lf j F=hLT be es Y N Q bI I w sum rp (lf++if(rp.any fun y=>y==N[j])=true then []else [N[j]]) (j+1) (fzB rp):=by
 cases rp with
 |nil=>
  have e13:=w7 0 false [] (fun h=>absurd rfl h) (by simp) N[j];have hF:F=0:=by rcases hF with⟨h,_⟩|h<;>exact h
  subst hF;cases lf with
  |nil=>exact yqn be es Y N Q bI I w sum j hj hN8 [] [] (by simp) _ rfl e13
  |cons b s=>exact yqm be es Y N Q bI I w sum j hj hN8 [] (b::s) hlf _ rfl e13
 |cons a r=>
  have e13:=w7 1 true (a::r) (fun _=>rfl) (by omega) N[j];cases hh:(a::r).any fun y=>y==N[j]
  ·rw[hh]at e13
   rcases hF with⟨rfl,rfl⟩|rfl
   ·exact yql be es Y N Q bI I w sum j hj hN8 (a::r) [] (by simp) _ rfl e13
   ·cases lf with
    |nil=>exact yqj be es Y N Q bI I w sum j hj hN8 (a::r) [] (by simp) _ rfl e13
    |cons b s=>exact yqh be es Y N Q bI I w sum j hj hN8 (a::r) (b::s) hlf _ rfl e13
  ·rw[hh]at e13
   rw[if_pos rfl,List.append_nil];rcases hF with⟨rfl,rfl⟩|rfl
   ·exact yqk be es Y N Q bI I w sum j hj hN8 (a::r) [] (by simp) _ rfl e13
   ·cases lf with
    |nil=>exact yqi be es Y N Q bI I w sum j hj hN8 (a::r) [] (by simp) _ rfl e13
    |cons b s=>exact yqg be es Y N Q bI I w sum j hj hN8 (a::r) (b::s) hlf _ rfl e13
theorem yul(N:List Int)(Q:List V)(bI:Bool)(I:List Int)(w sum:Int)(rp:List Int)(hN8:N.length≤8)(hrp:rp.length<1000):∀j,j≤N.length→0<j→
  hLT be es Y N Q bI I w sum rp [] 0 0=hLT be es Y N Q bI I w sum rp ((N.take j).filter fun k=> !(rp.any fun y=>y==k)) j (fzB rp):=by
 intro j
 induction j with
 |zero=>intro _ h;omega
 |succ j ih=>
  intro hj _
  have e:(N.take (j+1)).filter (fun k=> !(rp.any fun y=>y==k))=(N.take j).filter (fun k=> !(rp.any fun y=>y==k))++if(rp.any fun y=>y==N[j])=true then []else [N[j]]:=by
   rw[List.take_succ_eq_append_getElem (by omega),List.filter_append];congr 1;cases h:rp.any fun y=>y==N[j]<;>simp[h]
  have hl:((N.take j).filter (fun k=> !(rp.any fun y=>y==k))).length≤8:=Nat.le_trans (List.length_filter_le ..) (by rw[List.length_take];omega);rw[e];by_cases h0:j=0
  ·subst h0
   exact zpe be es Y N Q bI I w sum rp [] 0 (by omega) hN8 (by simp) hrp 0 (.inl ⟨rfl,rfl⟩)
  ·rw[ih (by omega) (by omega)]
   exact zpe be es Y N Q bI I w sum rp _ j (by omega) hN8 hl hrp _ (.inr rfl)
theorem yig{a b:Int×Int}(ha:um a)(hb:um b):jf a b≤510:=by unfold um at ha hb;unfold jf zdp;omega
theorem zo3{d:Int×Int}(hd:um d):∀(l:List (Int×Int)) (a:Int×Int),(∀p∈l,um p)→um a→wx d a l≤510*(l.length+1)
 | [],a,_,ha=>by have:=yig ha hd;simpa[wx]using this
 |p::l,a,h,ha=>by
  have h1:=yig ha (h p (List.mem_cons_self ..));have h2:=zo3 hd l p (fun q hq=>h q (List.mem_cons_of_mem _ hq)) (h p (List.mem_cons_self ..));simp only[wx,List.length_cons,Int.natCast_add,Int.natCast_one];omega
theorem in0:um (0,0):=by unfold um;decide
theorem yrf(x:Rq){pp:Nat→Int×Int}(hp:∀k,um (pp k))(N:List Int)(i:Int):um (zaa (Ss x pp N) i):=by
 unfold zaa;split
 ·rename_i s h
  obtain⟨k,_,rfl⟩:=List.mem_map.1 (List.mem_of_getElem? h);exact hp _
 ·exact in0
theorem ym1(x:Rq){pp:Nat→Int×Int}(hp:∀k,um (pp k))(N z:List Int)(ho:z.length≤3):wayO (0,0) (Ss x pp N) z≤10000:=by
 have h:=zo3 in0 (z.map (zaa (Ss x pp N))) (0,0) (fun p hq=>by
  obtain⟨i,_,rfl⟩:=List.mem_map.1 hq;exact yrf x hp N i) in0
 rw[List.length_map]at h;unfold wayO;omega
variable (be:Bool) (es:List Int) (Y:Cx)
theorem zpl{x:Rq}(hx:x.ok){pp:Nat→Int×Int}(hp:∀k,um (pp k)){N:List Int}(hN:isN N){z:Int}(hpr:0≤z∧z≤255){I:List Int}(hI:zaj N.length I=true):
  ∃(bO:Bool) (O:List Int),O.length=I.length∧0≤uw (0,0) (Ss x pp N) I∧uw (0,0) (Ss x pp N) I≤10000∧(zu T).call 11 [jk (0,0) 0 z,.sl true 5 ((Ss x pp N).map qi),.sl true 1 (I.map zx)] [] 0 []=some (.tup [.sl bO 1 (O.map zx),.int .i64 (uw (0,0) (Ss x pp N) I),.int .i64 0],[],0,[]):=by
 have hl:=yll hx hp hN;have hc:OkC (0,0) 0 z:=⟨zm7 in0,by decide,by omega⟩;have hlen:(Ss x pp N).length=N.length:=by simp[Ss]
 have hI3:=(zim hI).1;obtain⟨o',h1,h2⟩:=zo7 (0,0) (Ss x pp N) I;have h3:=zgi (0,0) (Ss x pp N) o';have h4:=ym1 x hp N o' (by rw[h1.length_eq];exact hI3);rw[←h2]at h3 h4;cases I with
 |nil=>exact⟨false,[],rfl,h3,h4,yil hc true true (Ss x pp N) hl 1⟩
 |cons y ys=>
  refine⟨true,(vl (wayO (0,0) (Ss x pp N)) (y::ys)).1,?_,h3,h4,?_⟩
  ·exact(zpk (wayO (0,0) (Ss x pp N)) (zgi (0,0) (Ss x pp N)) (y::ys)).2.1.length_eq
  ·exact k11 hc true (Ss x pp N) hl y ys (by rw[hlen];exact xcy hI)
theorem tail{x:Rq}(hm:(mkR es Y)=x)(hx:x.ok)(hn:0≤Y.n∧Y.n≤255)(ho:0≤Y.o∧Y.o≤255)(hpr:0≤Y.pr∧Y.pr≤255){pp:Nat→Int×Int}(hp:∀k,um (pp k))(hN:isN (nd x []))(hne:nd x []≠ [])(bI:Bool)(I:List Int)(hI:zaj (nd x []).length I=true)(w:Int)(hw:w=wsum (Ss x pp (nd x [])) I- Y.pr*uw (0,0) (Ss x pp (nd x [])) I)(hws:0≤wsum (Ss x pp (nd x [])) I∧wsum (Ss x pp (nd x [])) I≤8000000):
  hLT be es Y (nd x []) ((Ss x pp (nd x [])).map qi) bI I w (wsum (Ss x pp (nd x [])) I) (j6 (nd x []) I) ((nd x []).filter fun k=> !((j6 (nd x []) I).any fun y=>y==k)) (nd x []).length (fzB (j6 (nd x []) I))=some (.ret (.bool true),[],0,[]):=by
 obtain⟨bO,O,hO,h0,h1,e11⟩:=zpl hx hp hN hpr hI
 have hw1:(w !=IntKind.i64.wrap (wsum (Ss x pp (nd x [])) I- IntKind.i64.wrap (Y.pr*uw (0,0) (Ss x pp (nd x [])) I)))=false:=by
  rw[yz (by omega) (by omega) hws,←hw];exact bne_self_eq_false w
 have d0':decide (uw (0,0) (Ss x pp (nd x [])) I<0)=false:=decide_eq_false (by omega);have d1':decide (uw (0,0) (Ss x pp (nd x [])) I>10000)=false:=decide_eq_false (by omega)
 have hE:((Ss x pp (nd x [])).map qi).isEmpty=false:=by
  cases hq:nd x []with
  |nil=>exact absurd hq hne
  |cons a r=>rfl
 have hid:zt ((Ss x pp (nd x [])).map qi)= []:=zdo qi _ fun s=>rfl;have hl3:=zm3 hN;have hQ8:((Ss x pp (nd x [])).map qi).length≤8:=by rw[List.length_map,Ss,List.length_map];omega
 have hI3:=(zim hI).1;have hnn:0≤x.n:=hx.n.1;have hrl:(j6 (nd x []) I).length=I.length:=by simp[j6]
 rw[←ytc hnn];have hlf8:=zmm x (j6 (nd x []) I);generalize hrp:j6 (nd x []) I=rp at*;have e15:=zmy hx rp;have e14:=fun rz rb hz=>k14 be es Y rz rb rp hz (by omega) (hm▸hx) hn ho;rw[hm]at e14
 have e19:∀b,(zu T).call 19 [.sl b 1 ((nd x rp).map zx),.sl true 1 ((nd x rp).map zx)] [] 0 []=some (.bool true,[],0,[]):=fun b=>by
  have h:=c89 b true (nd x rp) (nd x rp) (by omega);rw[decide_eq_true rfl]at h;exact h
 have e19n:nd x rp= []→∀b,(zu T).call 19 [.sl b 1 ((nd x rp).map zx),.sl false 0 []] [] 0 []=some (.bool true,[],0,[]):=fun h0 b=>by
  have h:=ykp b (nd x rp) (by omega);rw[decide_eq_true h0]at h;exact h
 cases rp with
 |nil=>
  have hnd:nd x []=nd x []:=rfl;cases hlf:nd x []with
  |nil=>exact absurd hlf hne
  |cons a r=>
   rw[hlf]at e19;have t:=ynk be es Y (nd x []) _ hE hid hQ8 bI I (by omega) w (wsum (Ss x pp (nd x [])) I) _ [] (a::r) (nd x []) rfl bO O hpr true _ _ _ _ _ e11 hO d0' d1' hw1 (e14 0 false (fun h=>absurd rfl h)) e15 (by rw[hlf];exact e19);rw[hlf]at t;exact t
 |cons a r=>
  have hc:(a::r).length=1∨(a::r).length=2∨(a::r).length=3:=by
   have:0<(a::r).length:=by simp
   omega
  cases hlf:nd x (a::r)with
  |nil=>
   have e19:=e19n hlf;rcases hc with hc|hc|hc
   ·exact ynj be es Y (nd x []) _ hE hid hQ8 bI I (by omega) w (wsum (Ss x pp (nd x [])) I) _ (a::r) [] (nd x (a::r)) (by rw[hc];rfl) bO O hpr true _ _ _ _ _ e11 hO d0' d1' hw1 (e14 1 true (fun _=>rfl)) e15 e19
   ·exact yni be es Y (nd x []) _ hE hid hQ8 bI I (by omega) w (wsum (Ss x pp (nd x [])) I) _ (a::r) [] (nd x (a::r)) (by rw[hc];rfl) bO O hpr true _ _ _ _ _ e11 hO d0' d1' hw1 (e14 1 true (fun _=>rfl)) e15 e19
   ·exact ynh be es Y (nd x []) _ hE hid hQ8 bI I (by omega) w (wsum (Ss x pp (nd x [])) I) _ (a::r) [] (nd x (a::r)) (by rw[hc];rfl) bO O hpr true _ _ _ _ _ e11 hO d0' d1' hw1 (e14 1 true (fun _=>rfl)) e15 e19
  |cons b s=>
   rw[hlf]at e19;rcases hc with hc|hc|hc
   ·exact yng be es Y (nd x []) _ hE hid hQ8 bI I (by omega) w (wsum (Ss x pp (nd x [])) I) _ (a::r) (b::s) (nd x (a::r)) (by rw[hc];rfl) bO O hpr true _ _ _ _ _ e11 hO d0' d1' hw1 (e14 1 true (fun _=>rfl)) e15 (by rw[hlf];exact e19)
   ·exact ynf be es Y (nd x []) _ hE hid hQ8 bI I (by omega) w (wsum (Ss x pp (nd x [])) I) _ (a::r) (b::s) (nd x (a::r)) (by rw[hc];rfl) bO O hpr true _ _ _ _ _ e11 hO d0' d1' hw1 (e14 1 true (fun _=>rfl)) e15 (by rw[hlf];exact e19)
   ·exact yne be es Y (nd x []) _ hE hid hQ8 bI I (by omega) w (wsum (Ss x pp (nd x [])) I) _ (a::r) (b::s) (nd x (a::r)) (by rw[hc];rfl) bO O hpr true _ _ _ _ _ e11 hO d0' d1' hw1 (e14 1 true (fun _=>rfl)) e15 (by rw[hlf];exact e19)
variable (be:Bool) (es:List Int) (Y:Cx)
theorem ywe(hx0:(mkR es Y).ok)(hn:0≤Y.n∧Y.n≤255)(ho:0≤Y.o∧Y.o≤255)(hpr:0≤Y.pr∧Y.pr≤255)(hp0:Pok Y):
  (zu T).call 4 [zy be es Y] [] 0 []=some (.bool true,[],0,[]):=by
 have hp:=yri hp0;refine ywf be es Y _ rfl hx0 hn ho _ rfl _ ?_
 have hL:=yvj be es Y hx0 hp0 (nd (mkR es Y) []) ((List.range 7).map fun k=>V.sl true 1 (((List.range (mkR es Y).m).map fun j=>(mkR es Y).lost [] k j).map zx)) (!(nd (mkR es Y) []).isEmpty) (ndN (mkR es Y) []) (by have:=zmm (mkR es Y) [];omega) (fun i h=>by
  have hk:=yio (yh1 hx0) _ (List.getElem_mem h);have hg:(nd (mkR es Y) [])[i]? =some (nd (mkR es Y) [])[i]:=List.getElem?_eq_getElem h
  have hm:(ndN (mkR es Y) [])[i]? =some ((mkR es Y).cz ((nd (mkR es Y) [])[i]).toNat).n:=by
   unfold ndN;rw[List.getElem?_map,hg];rfl
  rcases hk with hk|hk|hk<;>rw[hk]at hg hm
  ·exact⟨0,by decide,hg,hm,rfl⟩
  ·exact⟨1,by decide,hg,hm,rfl⟩
  ·exact⟨2,by decide,hg,hm,rfl⟩) (nd (mkR es Y) []).length (Nat.le_refl _)
 rw[List.take_length]at hL;refine Eq.trans (b:=hS be es Y (nd (mkR es Y) []) ((List.range 7).map fun k=>V.sl true 1 (((List.range (mkR es Y).m).map fun j=>(mkR es Y).lost [] k j).map zx)) (!(nd (mkR es Y) []).isEmpty) (ndN (mkR es Y) []) 0 []) rfl ?_;rw[hL];have hN:isN (nd (mkR es Y) []):=yh1 hx0;generalize (List.range 7).map (fun k=>V.sl true 1 (((List.range (mkR es Y).m).map fun j=>(mkR es Y).lost [] k j).map zx))=R7;generalize ndN (mkR es Y) []=Nm;generalize (!(nd (mkR es Y) []).isEmpty)=bM;show hS be es Y (nd (mkR es Y) []) R7 bM Nm (nd (mkR es Y) []).length (Ss (mkR es Y) (uq Y) (nd (mkR es Y) []))=_;generalize hm:(mkR es Y)=x at*;have hl:=yll hx0 hp hN;have hlen:(Ss x (uq Y) (nd x [])).length=(nd x []).length:=by simp[Ss]
 have hl3:=zm3 hN;have hc:OkC (0,0) 0 Y.pr:=⟨zm7 in0,by decide,by omega⟩
 have ht:∀s∈Ss x (uq Y) (nd x []),s.t=0:=fun s hs=>by
  obtain⟨k,_,rfl⟩:=List.mem_map.1 hs;rfl
 obtain⟨I,hI0,hw0,e21⟩:=k21 hc true (Ss x (uq Y) (nd x [])) hl (by omega) ht;have e22:=k22 hc rfl true (Ss x (uq Y) (nd x [])) hl ht Y.n (by omega);have hws:=ymy (fun s hs=>(hl.w s hs).1) (by omega) hI0;have hI:=ynn _ (by omega) I hI0;rw[hlen]at hI;obtain⟨bO,O,hO,h0,h1,e11⟩:=zpl hx0 hp hN hpr hI;have hcost:0≤Y.pr*uw (0,0) (Ss x (uq Y) (nd x [])) I:=Int.mul_nonneg hpr.1 h0;have hpw:(zj (0,0) Y.pr (Ss x (uq Y) (nd x [])) I).w=wsum (Ss x (uq Y) (nd x [])) I- Y.pr*uw (0,0) (Ss x (uq Y) (nd x [])) I:=rfl
 have hsum:((Ss x (uq Y) (nd x [])).map (·.w)).sum≤8000000:=by
  have:∀l:List Sd,(∀s∈l,s.w≤1000000)→l.length≤3→(l.map (·.w)).sum≤8000000:=by
   intro l hw hl
   match l,hl with
   | [],_=>simp
   | [s0],_=>have:=hw s0 (by simp);simp;omega
   | [s0,s1],_=>have:=hw s0 (by simp);have:=hw s1 (by simp);simp;omega
   | [s0,s1,s2],_=>have:=hw s0 (by simp);have:=hw s1 (by simp);have:=hw s2 (by simp);simp;omega
   |_::_::_::_::_,h=>simp at h
  exact this _ (fun s hs=>(hl.w s hs).2) (by omega)
 cases hq:nd x []with
 |nil=>
  have hIn:I= []:=by
   rw[hq]at hI0;simpa[Ss,subs]using hI0
  subst hIn;have e14:=k14 be es Y 0 false [] (fun h=>absurd rfl h) (by simp) (hm▸hx0) hn ho;rw[hm,hq]at e14;have e15:=zmy hx0 [];rw[hq]at e15 e21 e22 e11;have e19:∀b,(zu T).call 19 [.sl b 1 [],.sl false 0 []] [] 0 []=some (.bool true,[],0,[]):=fun b=>ykp b [] (by simp);have e11':=yil hc true true [] (by have:=hl;rw[hq]at this;exact this) 1;rw[zbw]at e11'
  have e21':(zj (0,0) Y.pr (Ss x (uq Y) []) []).w=0:=by
   show 0- Y.pr*wayO (0,0) [] []=0;rw[zbw,Int.mul_zero];rfl
  rw[e21']at e21;exact ynd be es Y R7 bM Nm _ hpr hn _ _ _ _ _ e21 e22 e11' e14 e15 e19
 |cons a r=>
  have hne:nd x []≠ []:=by rw[hq];simp
  have hS1:hS be es Y (nd x []) R7 bM Nm (nd x []).length (Ss x (uq Y) (nd x []))=jn be es Y (nd x []) R7 bM Nm (nd x []).length (.ref 1) [.cells false true 50 ((Ss x (uq Y) (nd x [])).map qi)]:=by
   cases hs:Ss x (uq Y) (nd x [])with
   |nil=>rw[hs]at hlen;rw[hq]at hlen;simp at hlen
   |cons s t=>rfl
  rw[←hq,hS1];have hE:((Ss x (uq Y) (nd x [])).map qi).isEmpty=false:=by rw[hq];rfl
  have hid:zt ((Ss x (uq Y) (nd x [])).map qi)= []:=zdo qi _ fun s=>rfl;have hIl:=zim hI;refine(w12 be es Y (nd x []) R7 bM Nm _ hE hid (by rw[List.length_map];omega) (!I.isEmpty) I _ _ hpr hn e21 e22 (decide_eq_false (by omega)) (decide_eq_false (by rw[hpw];omega)) (decide_eq_false (by rw[List.length_map,hlen];omega))).trans ?_;have hfin:=tail be es Y hm hx0 hn ho hpr hp hN hne (!I.isEmpty) I hI _ hpw (by omega);have hl3':=yul be es Y (nd x []) ((Ss x (uq Y) (nd x [])).map qi) (!I.isEmpty) I (zj (0,0) Y.pr (Ss x (uq Y) (nd x [])) I).w (wsum (Ss x (uq Y) (nd x [])) I) (j6 (nd x []) I) (by omega) (by simp[j6];omega) (nd x []).length (Nat.le_refl _) (by rw[hq];simp);rw[List.take_length]at hl3';rw[←hl3']at hfin;cases I with
  |nil=>
   refine(w23 be es Y (nd x []) _ _ [] _ (.sl false 0 []) (-1) 0 0 [] (.inl ⟨rfl,rfl⟩)).trans ?_;exact hfin
  |cons i J=>
   obtain⟨last,h2⟩:=yut be es Y hx0 (uq Y) (nd x []) (!(i::J).isEmpty) (i::J) (zj (0,0) Y.pr (Ss x (uq Y) (nd x [])) (i::J)).w hI (by simp);refine h2.trans ?_;refine(w23 be es Y (nd x []) _ _ (i::J) _ (.ref 3) last _ 1 (j6 (nd x []) (i::J)) (.inr ⟨rfl,rfl⟩)).trans ?_;exact hfin
end Go.Den.FaT
end
