import Derived.Test.YtjiidembdmfikaaGreatDoorFaX2
set_option linter.all false
set_option maxHeartbeats 8000000
set_option maxRecDepth 100000
namespace Go.Den.FaT
open Go Go.Proofs Go.Den
variable (bt:Bool) (t:List (Int×Int)) (drop cells l0 l1 l2 tr wide:Int) (bv:Bool) (vs:List Int)
theorem st9(r:V)(h:HV0 bt t drop cells l0 l1 l2 tr wide bv vs=some (.ret r,[],0,[])):(zu T).call 9 [qy bt t drop cells l0 l1 l2 tr wide bv vs] [] 0 []=some (r,[],0,[]):=by
 have ms:decide (2<zhg)=true:=by decide
 have e30_0:(zu T).call 30 [.int .i64 0] [] 0 []=some (.str [99,48],[],0,[]):=by
  rw[znm];simp -implicitDefEqProofs only[go_sem,simprocAttr,yqr,ms]
 have e30_1:(zu T).call 30 [.int .i64 1] [] 0 []=some (.str [99,49],[],0,[]):=by
  rw[znm];simp -implicitDefEqProofs only[go_sem,simprocAttr,yqq,ms]
 have e30_2:(zu T).call 30 [.int .i64 2] [] 0 []=some (.str [99,50],[],0,[]):=by
  rw[znm];simp -implicitDefEqProofs only[go_sem,simprocAttr,yqp,ms]
 have m1:decide (1<maxRow)=true:=by decide
 have m2:decide (2<maxRow)=true:=by decide
 have m3:decide (3<maxRow)=true:=by decide
 have m7:decide (7<(maxRow:Int))=true:=by decide
 have u0:IntKind.i64.wrap (IntKind.i64.wrap 0+1)=1:=rfl;unfold HV0 at h;simp only[qy]at h⊢;rw[xbo];simp -implicitDefEqProofs only[go_sem,simprocAttr];rw[zx];simp -implicitDefEqProofs only[go_sem,simprocAttr,e30_0,u0,k7,k6,uw,wm5,wm4,m1,m2,m3];rw[zx];simp -implicitDefEqProofs only[go_sem,simprocAttr,e30_1,k7,k6,uw,wm5,wm4,m1,m2,m3];rw[zx];simp -implicitDefEqProofs only[go_sem,simprocAttr,e30_2,k7,k6,uw,wm5,wm4,m1,m2,m3];rw[zx];simp -implicitDefEqProofs only[go_sem,simprocAttr,m7,h]
theorem jc(A0 A1 A2 A3 A4 A5 A6:List Int)(C0 C1 C2:List (Int×Int))(L0 L1 L2:List Int)(vv full:Int)(j:Nat)(hj:j<100):qw bt t drop cells l0 l1 l2 tr wide bv vs A0 A1 A2 A3 A4 A5 A6 C0 C1 C2 L0 L1 L2 vv full j 3=HV bt t drop cells l0 l1 l2 tr wide bv vs A0 A1 A2 A3 A4 A5 A6 C0 C1 C2 L0 L1 L2 (j+1):=by
 have wj:IntKind.i64.wrap ((j:Int)+1)=((j+1:Nat):Int):=by rw[wrap64 (by omega) (by omega)];rfl
 unfold qw HV;simp only[qy];rw[zx];simp -implicitDefEqProofs only[go_sem,simprocAttr,wj]
theorem fi9(A0 A1 A2 A3 A4 A5 A6:List Int)(C0 C1 C2:List (Int×Int))(L0 L1 L2:List Int)(e33:(zu T).call 33 [.agg [.sl true 1 [.sl true 1 (A0.map intV),.sl true 1 (A1.map intV),.sl true 1 (A2.map intV),.sl true 1 (A3.map intV),.sl true 1 (A4.map intV),.sl true 1 (A5.map intV),.sl true 1 (A6.map intV)],.int .i64 0,.sl true 3 [.agg [.str [99,48],.int .i64 1,.sl true 2 (C0.map ptV)],.agg [.str [99,49],.int .i64 3,.sl true 2 (C1.map ptV)],.agg [.str [99,50],.int .i64 5,.sl true 2 (C2.map ptV)]]]] [] 0 []=some (.int .i64 0,[],0,[])):HV bt t drop cells l0 l1 l2 tr wide bv vs A0 A1 A2 A3 A4 A5 A6 C0 C1 C2 L0 L1 L2 vs.length=some (.ret (.tup [.agg [.sl true 1 [.sl true 1 (A0.map intV),.sl true 1 (A1.map intV),.sl true 1 (A2.map intV),.sl true 1 (A3.map intV),.sl true 1 (A4.map intV),.sl true 1 (A5.map intV),.sl true 1 (A6.map intV)],.int .i64 0,.sl true 3 [.agg [.str [99,48],.int .i64 1,.sl true 2 (C0.map ptV)],.agg [.str [99,49],.int .i64 3,.sl true 2 (C1.map ptV)],.agg [.str [99,50],.int .i64 5,.sl true 2 (C2.map ptV)]]],.agg [.sl true 1 (L0.map intV),.sl true 1 (L1.map intV),.sl true 1 (L2.map intV)],.bool true]),[],0,[]):=by
 have h1:=z8 vs.length;unfold HV;simp only[qy];rw[zx];simp -implicitDefEqProofs only[go_sem,simprocAttr,h1,e33]
end Go.Den.FaT
