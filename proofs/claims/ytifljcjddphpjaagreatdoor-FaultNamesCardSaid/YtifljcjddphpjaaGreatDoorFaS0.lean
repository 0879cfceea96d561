import Derived.Test.YtifljcjddphpjaaGreatDoorFaTab
import Derived.Test.YtifljcjddphpjaaGreatDoorZR
import Derived.Test.YtifljcjddphpjaaGreatDoorFaTi
set_option linter.all false
set_option maxHeartbeats 8000000
set_option maxRecDepth 100000
noncomputable section
namespace Go.Den.FaT
open Go Go.Proofs Go.Den Tryz
abbrev RR(c:Code)(os:List SO):Prop:=yqy T c os
abbrev RD(c:Code)(f:Nat)(os:List SO)(ps:List (Nat×Nat)):Prop:=yq0 T c f os ps
abbrev RI(r c:Code):Prop:=yqz T r c
@[go_sem]theorem fr15:x9 T 15 false none false∧zd T 15 4:=by refine⟨⟨?_,?_,?_⟩,zm T (F:=f15) ?_ ?_⟩<;>kernel_rfl
@[go_sem]theorem fr16:x9 T 16 false none false∧zd T 16 4:=by refine⟨⟨?_,?_,?_⟩,zm T (F:=f16) ?_ ?_⟩<;>kernel_rfl
@[go_sem]theorem fr18:x9 T 18 false none false∧zd T 18 34:=by refine⟨⟨?_,?_,?_⟩,zm T (F:=f18) ?_ ?_⟩<;>kernel_rfl
@[go_sem]theorem fr20:x9 T 20 false none false∧zd T 20 3:=by refine⟨⟨?_,?_,?_⟩,zm T (F:=f20) ?_ ?_⟩<;>kernel_rfl
@[go_sem]theorem fr23:x9 T 23 false none false∧zd T 23 29:=by refine⟨⟨?_,?_,?_⟩,zm T (F:=f23) ?_ ?_⟩<;>kernel_rfl
@[go_sem]theorem fr101:x9 T 101 false none false∧zd T 101 4:=by refine⟨⟨?_,?_,?_⟩,zm T (F:=f101) ?_ ?_⟩<;>kernel_rfl
def yd2:=nv 2 f15
def yd1:=nv 12 f15
def yd0:=nv 52 f15
def ydz:=nv 28 f15
def zkg:=nv 116 f15
def ydy:=nv 464 f15
def ydw:=nv 1864 f15
def ydv:=nv 7460 f15
def ydx:=nv 467 f15
def zmp:=nv 30 f15
theorem xgv:qq T 15 28 (.seq (yd2) (.seq (.seq (yd1) (.cond (.tmp 13) (.seq (yd0) (.ret)) (.skip))) (.seq (.seq (ydz) (.block 0 (.loop zkg))) (.seq (zmp) (.ret))))):=zh T (F:=f15) (by kernel_rfl) (by kernel_rfl) (by kernel_rfl)
@[go_sem↓]theorem run15:RR yd2 [oo 1 (.box 25 (.tmp 0)),oo 2 (.assign (.const (.bool false)))]∧RR yd1 [oo 4 (oF 25 1 0),oo 5 (oL 22 4),oo 6 (oN 5 22),oo 7 (oC .gtr 3 6 9),oo 8 (oM 7),of 9 (oF 25 1 2) 8,of 10 (oL 23 9) 8,of 11 (o1 101 10 23) 8,of 12 (.unOp .not 4 (.tmp 11)) 8,oo 13 (.pick (.tmp 8) (.const (.bool true)) (.tmp 12))]∧RR yd0 [oo 2 (.assign (.const (.bool false)))]∧RR ydz [oo 3 (oi 0)]∧RR ydy [oo 14 (oM 3),oo 15 (oF 25 1 0),oo 16 (oL 22 15),oo 17 (oN 16 22),oo 18 (oB .lss 3 14 17)]∧RR ydw [oo 21 (oF 25 1 0),oo 22 (oL 22 21),oo 23 (oM 3),oo 24 (oI 22 22 23),oo 25 (oL 28 24),oo 26 (oN 25 28),oo 27 (oC .gtr 3 26 9)]∧RR ydv [oo 2 (.assign (.const (.bool false)))]∧RR ydx [oo 19 (oM 3),oo 20 (oC .add 3 19 1),oo 3 (oG 20)]∧RI zkg (.seq (.seq (ydy) (.cond (.tmp 18) (.skip) (.exit 0))) (.seq (.block 1 (.seq (ydw) (.cond (.tmp 27) (.seq (ydv) (.ret)) (.skip)))) (ydx)))∧z7 T 15 zkg [1,3]∧RR zmp [oo 2 (.assign (.const (.bool true)))]∧zu T 15 [.tmp 2] false:=by refine⟨zz T ?_,zz T ?_,zz T ?_,zz T ?_,zz T ?_,zz T ?_,zz T ?_,zz T ?_,zl T ?_,z8 T ?_,zz T ?_,zf T (F:=f15) ?_ ?_ ?_⟩<;>kernel_rfl
@[go_sem]theorem fr106:x9 T 106 false none false∧zd T 106 28:=by refine⟨⟨?_,?_,?_⟩,zm T (F:=f106) ?_ ?_⟩<;>kernel_rfl
@[go_sem]theorem fr88:x9 T 88 false none false∧zd T 88 25:=by refine⟨⟨?_,?_,?_⟩,zm T (F:=f88) ?_ ?_⟩<;>kernel_rfl
def ybl:=nv 2 f18
def ybk:=nv 6 f18
def ybj:=nv 14 f18
def ybi:=nv 60 f18
def zj8:=nv 244 f18
def ybh:=nv 488 f18
def ybg:=nv 7832 f18
def ybf:=nv 7833 f18
def ybe:=nv 1959 f18
def zmg:=nv 62 f18
theorem xgp:qq T 18 28 (.seq (ybl) (.seq (ybk) (.seq (ybj) (.seq (.seq (ybi) (.block 0 (.loop zj8))) (.seq (zmg) (.ret)))))):=zh T (F:=f18) (by kernel_rfl) (by kernel_rfl) (by kernel_rfl)
@[go_sem↓]theorem run18:RR ybl [oo 1 (.box 25 (.tmp 0)),oo 2 (.alloc 34)]∧RR ybk [oo 6 (oL 25 1),oo 7 (o1 88 6 25),ow 25 1 7]∧RR ybj [oo 8 (oF 25 1 0),oo 9 (oL 22 8),oo 10 (oF 25 1 1),oo 11 (oL 3 10),oo 12 (.build 34 #[(0,.tmp 9),(1,.tmp 11)]),oo 3 (.alloc 34),ow 34 3 12]∧RR ybi [oo 13 (oF 25 1 2),oo 14 (oL 23 13),oo 15 (oN 14 23),oo 16 (.move (.const (.int .i64 0)))]∧RR ybh [oo 17 (oB .lss 3 16 15)]∧RR ybg [oo 18 (oI 23 14 16),oo 19 (oL 140 18),oo 5 (.alloc 140),ow 140 5 19]∧RR ybf [oo 20 (oF 34 3 2),oo 21 (oL 32 20),oo 22 (oL 140 5),oo 23 (oS 32 22),oo 24 (oA 21 23 32),oo 25 (oF 34 3 2),ow 32 25 24]∧RR ybe [oo 26 (oC .add 3 16 1),oo 16 (oM 26)]∧RI zj8 (.seq (ybh) (.seq (.cond (.tmp 17) (.skip) (.exit 0)) (.seq (.block 1 (.seq (ybg) (ybf))) (ybe))))∧z7 T 18 zj8 [2,3,14,15,16]∧RR zmg [oo 27 (oL 34 3),ow 34 2 27]∧zu T 18 [.cell 2 34] false:=by refine⟨zz T ?_,zz T ?_,zz T ?_,zz T ?_,zz T ?_,zz T ?_,zz T ?_,zz T ?_,zl T ?_,z8 T ?_,zz T ?_,zf T (F:=f18) ?_ ?_ ?_⟩<;>kernel_rfl
@[go_sem]theorem fr107:x9 T 107 false none false∧zd T 107 22:=by refine⟨⟨?_,?_,?_⟩,zm T (F:=f107) ?_ ?_⟩<;>kernel_rfl
@[go_sem]theorem fr39:x9 T 39 false none false∧zd T 39 3:=by refine⟨⟨?_,?_,?_⟩,zm T (F:=f39) ?_ ?_⟩<;>kernel_rfl
@[go_sem]theorem fr108:x9 T 108 false none false∧zd T 108 3:=by refine⟨⟨?_,?_,?_⟩,zm T (F:=f108) ?_ ?_⟩<;>kernel_rfl
@[go_sem]theorem fr109:x9 T 109 false none false∧zd T 109 3:=by refine⟨⟨?_,?_,?_⟩,zm T (F:=f109) ?_ ?_⟩<;>kernel_rfl
@[go_sem]theorem fr110:x9 T 110 false none false∧zd T 110 3:=by refine⟨⟨?_,?_,?_⟩,zm T (F:=f110) ?_ ?_⟩<;>kernel_rfl
def zyr:=nv 2 f20
def zyq:=nv 12 f20
def zyh:=nv 26 f20
def zyb:=nv 108 f20
def zya:=nv 14 f20
def zx9:=nv 60 f20
def zgi:=nv 244 f20
def zx8:=nv 976 f20
def zx7:=nv 3912 f20
def zx6:=nv 15652 f20
def zyp:=nv 31306 f20
def zyo:=nv 125228 f20
def zyn:=nv 15654 f20
def zj3:=nv 62620 f20
def zym:=nv 250480 f20
def zyk:=nv 1001928 f20
def zyj:=nv 2003858 f20
def zyi:=nv 8015436 f20
def zyl:=nv 250483 f20
def zl9:=nv 979 f20
def zhx:=nv 124 f20
def zhw:=nv 250 f20
def zhv:=nv 1004 f20
def zhu:=nv 252 f20
def zeh:=nv 1012 f20
def zyg:=nv 4048 f20
def zye:=nv 16200 f20
def zyd:=nv 32402 f20
def zyc:=nv 129612 f20
def zyf:=nv 4051 f20
def ze2:=nv 254 f20
theorem xf8:qq T 20 121 (.seq (zyr) (.seq (.seq (zyq) (.seq (zyh) (.cond (.tmp 26) (.seq (zyb) (.ret)) (.skip)))) (.seq (zya) (.seq (.seq (zx9) (.block 0 (.loop zgi))) (.seq (.seq (zhx) (.seq (zhw) (.cond (.tmp 86) (.seq (zhv) (.ret)) (.skip)))) (.seq (.seq (zhu) (.block 4 (.loop zeh))) (.seq (ze2) (.ret)))))))):=zh T (F:=f20) (by kernel_rfl) (by kernel_rfl) (by kernel_rfl)
@[go_sem↓]theorem run20:RR zyr [oo 1 (.box 25 (.tmp 0)),oo 2 (oi 0)]∧RD zyq 20 [oo 13 (oF 25 1 0),oo 14 (oL 22 13),oo 15 (oN 14 22),oo 16 (oC .eql 3 15 0),oo 17 (.call ⟨.value (.func 39),#[.tmp 16,.const (.int .i64 12)],#[4,3]⟩),oo 18 (oF 25 1 0),oo 19 (oL 22 18),oo 20 (oN 19 22),oo 21 (oC .gtr 3 20 8),oo 22 (.call ⟨.value (.func 39),#[.tmp 21,.const (.int .i64 5)],#[4,3]⟩),oo 23 (.buildSlice 28 2 #[(0,.tmp 17),(1,.tmp 22)]),oo 24 (o1 108 23 28),oo 3 (oG 24)] [(0,5),(1,5),(2,5),(3,5),(4,5),(0,6),(1,6),(2,6),(3,6),(4,6),(0,7),(1,7),(2,7),(3,7),(4,7),(0,8),(1,8),(2,8),(3,8),(4,8)]∧RR zyh [oo 25 (oM 3),oo 26 (oC .neq 3 25 0)]∧RR zyb [oo 27 (oM 3),oo 2 (oG 27)]∧RR zya [oo 28 (oF 25 1 0),oo 29 (oL 22 28),oo 30 (.indexAddr 22 (.tmp 29) (.const (.int .i64 0))),oo 31 (oL 28 30),oo 32 (oN 31 28),oo 4 (oG 32)]∧RR zx9 [oo 5 (oi 0)]∧RR zx8 [oo 33 (oM 5),oo 34 (oF 25 1 0),oo 35 (oL 22 34),oo 36 (oN 35 22),oo 37 (oB .lss 3 33 36)]∧RR zx7 [oo 40 (oF 25 1 0),oo 41 (oL 22 40),oo 42 (oM 5),oo 43 (oI 22 41 42),oo 44 (oL 28 43),oo 6 (oG 44)]∧RR zx6 [oo 45 (oM 6),oo 46 (oN 45 28),oo 47 (oC .eql 3 46 0),oo 48 (.call ⟨.value (.func 39),#[.tmp 47,.const (.int .i64 12)],#[4,3]⟩),oo 49 (oM 6),oo 50 (oN 49 28),oo 51 (oC .gtr 3 50 8),oo 52 (.call ⟨.value (.func 39),#[.tmp 51,.const (.int .i64 5)],#[4,3]⟩),oo 53 (oM 6),oo 54 (oN 53 28),oo 55 (oM 4),oo 56 (oB .neq 3 54 55),oo 57 (.call ⟨.value (.func 39),#[.tmp 56,.const (.int .i64 2)],#[4,3]⟩),oo 58 (.buildSlice 28 3 #[(0,.tmp 48),(1,.tmp 52),(2,.tmp 57)]),oo 59 (o1 108 58 28),oo 7 (oG 59)]∧RR zyp [oo 60 (oM 7),oo 61 (oC .neq 3 60 0)]∧RR zyo [oo 62 (oM 7),oo 2 (oG 62)]∧RR zyn [oo 8 (oi 0)]∧RR zym [oo 63 (oM 8),oo 64 (oM 6),oo 65 (oN 64 28),oo 66 (oB .lss 3 63 65)]∧RR zyk [oo 69 (oM 6),oo 70 (oM 8),oo 71 (oI 28 69 70),oo 72 (oL 3 71),oo 73 (o1 109 72 3),oo 9 (oG 73)]∧RR zyj [oo 74 (oM 9),oo 75 (oC .neq 3 74 0)]∧RR zyi [oo 76 (oM 9),oo 2 (oG 76)]∧RR zyl [oo 67 (oM 8),oo 68 (oC .add 3 67 1),oo 8 (oG 68)]∧RI zj3 (.seq (.seq (zym) (.cond (.tmp 66) (.skip) (.exit 2))) (.seq (.block 3 (.seq (zyk) (.seq (zyj) (.cond (.tmp 75) (.seq (zyi) (.ret)) (.skip))))) (zyl)))∧z7 T 20 zj3 [1,4,5,6,8]∧RR zl9 [oo 38 (oM 5),oo 39 (oC .add 3 38 1),oo 5 (oG 39)]∧RI zgi (.seq (.seq (zx8) (.cond (.tmp 37) (.skip) (.exit 0))) (.seq (.block 1 (.seq (zx7) (.seq (.seq (zx6) (.seq (zyp) (.cond (.tmp 61) (.seq (zyo) (.ret)) (.skip)))) (.seq (zyn) (.block 2 (.loop zj3)))))) (zl9)))∧z7 T 20 zgi [1,4,5]∧RD zhx 20 [oo 77 (oF 25 1 1),oo 78 (oL 3 77),oo 79 (o1 109 78 3),oo 80 (oF 25 1 2),oo 81 (oL 23 80),oo 82 (o1 110 81 23),oo 83 (.buildSlice 28 2 #[(0,.tmp 79),(1,.tmp 82)]),oo 84 (o1 108 83 28),oo 10 (oG 84)] [(0,3),(1,3),(2,3),(0,4),(1,4),(2,4)]∧RR zhw [oo 85 (oM 10),oo 86 (oC .neq 3 85 0)]∧RR zhv [oo 87 (oM 10),oo 2 (oG 87)]∧RR zhu [oo 11 (oi 0)]∧RR zyg [oo 88 (oM 11),oo 89 (oF 25 1 2),oo 90 (oL 23 89),oo 91 (oN 90 23),oo 92 (oB .lss 3 88 91)]∧RD zye 20 [oo 95 (oF 25 1 2),oo 96 (oL 23 95),oo 97 (oM 11),oo 98 (oI 23 96 97),oo 99 (oF 140 98 1),oo 100 (oL 3 99),oo 101 (oF 25 1 0),oo 102 (oL 22 101),oo 103 (oN 102 22),oo 104 (oB .geq 3 100 103),oo 105 (.call ⟨.value (.func 39),#[.tmp 104,.const (.int .i64 10)],#[4,3]⟩),oo 106 (oF 25 1 2),oo 107 (oL 23 106),oo 108 (oM 11),oo 109 (oI 23 107 108),oo 110 (oF 140 109 2),oo 111 (oL 72 110),oo 112 (oN 111 72),oo 113 (oM 4),oo 114 (oB .neq 3 112 113),oo 115 (.call ⟨.value (.func 39),#[.tmp 114,.const (.int .i64 2)],#[4,3]⟩),oo 116 (.buildSlice 28 2 #[(0,.tmp 105),(1,.tmp 115)]),oo 117 (o1 108 116 28),oo 12 (oG 117)] [(0,2),(1,2),(0,6),(1,6),(2,6),(3,6),(4,6),(5,6),(0,7),(1,7),(2,7),(3,7),(4,7),(5,7),(0,8),(1,8),(2,8),(3,8),(4,8),(5,8),(0,11),(1,11),(2,11),(3,11),(4,11),(5,11),(6,11),(7,11),(8,11),(9,11),(10,11),(0,12),(1,12),(2,12),(3,12),(4,12),(5,12),(6,12),(7,12),(8,12),(9,12),(10,12),(0,13),(1,13),(2,13),(3,13),(4,13),(5,13),(6,13),(7,13),(8,13),(9,13),(10,13),(11,13),(12,13),(0,14),(1,14),(2,14),(3,14),(4,14),(5,14),(6,14),(7,14),(8,14),(9,14),(10,14),(0,15),(1,15),(2,15),(3,15),(4,15),(5,15),(6,15),(7,15),(8,15),(9,15),(10,15),(0,16),(1,16),(2,16),(3,16),(4,16),(5,16),(6,16),(7,16),(8,16),(9,16),(10,16),(0,17),(1,17),(2,17),(3,17),(4,17),(5,17),(6,17),(7,17),(8,17),(9,17),(10,17),(0,18),(1,18),(2,18),(3,18),(4,18),(5,18),(6,18),(7,18),(8,18),(9,18),(10,18),(11,18),(12,18),(13,18),(14,18),(15,18),(16,18),(17,18),(0,19),(1,19),(2,19),(3,19),(4,19),(5,19),(6,19),(7,19),(8,19),(9,19),(10,19)]∧RR zyd [oo 118 (oM 12),oo 119 (oC .neq 3 118 0)]∧RR zyc [oo 120 (oM 12),oo 2 (oG 120)]∧RR zyf [oo 93 (oM 11),oo 94 (oC .add 3 93 1),oo 11 (oG 94)]∧RI zeh (.seq (.seq (zyg) (.cond (.tmp 92) (.skip) (.exit 4))) (.seq (.block 5 (.seq (zye) (.seq (zyd) (.cond (.tmp 119) (.seq (zyc) (.ret)) (.skip))))) (zyf)))∧z7 T 20 zeh [1,4,11]∧RR ze2 [oo 2 (oi 0)]∧zu T 20 [.tmp 2] false:=by refine⟨zz T ?_,xt T (id:=1) ?_ ?_,zz T ?_,zz T ?_,zz T ?_,zz T ?_,zz T ?_,zz T ?_,zz T ?_,zz T ?_,zz T ?_,zz T ?_,zz T ?_,zz T ?_,zz T ?_,zz T ?_,zz T ?_,zl T ?_,z8 T ?_,zz T ?_,zl T ?_,z8 T ?_,xt T (id:=18) ?_ ?_,zz T ?_,zz T ?_,zz T ?_,zz T ?_,xt T (id:=24) ?_ ?_,zz T ?_,zz T ?_,zz T ?_,zl T ?_,z8 T ?_,zz T ?_,zf T (F:=f20) ?_ ?_ ?_⟩<;>kernel_rfl
@[go_sem]theorem fr112:x9 T 112 false none false∧zd T 112 29:=by refine⟨⟨?_,?_,?_⟩,zm T (F:=f112) ?_ ?_⟩<;>kernel_rfl
@[go_sem]theorem fr113:x9 T 113 false none false∧zd T 113 29:=by refine⟨⟨?_,?_,?_⟩,zm T (F:=f113) ?_ ?_⟩<;>kernel_rfl
@[go_sem]theorem fr114:x9 T 114 false none false∧zd T 114 29:=by refine⟨⟨?_,?_,?_⟩,zm T (F:=f114) ?_ ?_⟩<;>kernel_rfl
@[go_sem]theorem fr117:x9 T 117 false none false∧zd T 117 29:=by refine⟨⟨?_,?_,?_⟩,zm T (F:=f117) ?_ ?_⟩<;>kernel_rfl
@[go_sem]theorem fr118:x9 T 118 false none false∧zd T 118 29:=by refine⟨⟨?_,?_,?_⟩,zm T (F:=f118) ?_ ?_⟩<;>kernel_rfl
@[go_sem]theorem fr119:x9 T 119 false none false∧zd T 119 187:=by refine⟨⟨?_,?_,?_⟩,zm T (F:=f119) ?_ ?_⟩<;>kernel_rfl
@[go_sem]theorem fr120:x9 T 120 false none false∧zd T 120 29:=by refine⟨⟨?_,?_,?_⟩,zm T (F:=f120) ?_ ?_⟩<;>kernel_rfl
@[go_sem]theorem fr121:x9 T 121 false none false∧zd T 121 187:=by refine⟨⟨?_,?_,?_⟩,zm T (F:=f121) ?_ ?_⟩<;>kernel_rfl
def zv9:=nv 2 f23
def zv8:=nv 12 f23
def zv7:=nv 26 f23
def zv6:=nv 108 f23
def zv5:=nv 14 f23
def zv4:=nv 30 f23
def zv3:=nv 62 f23
theorem xfv:qq T 23 33 (.seq (zv9) (.seq (.seq (zv8) (.seq (zv7) (.cond (.tmp 11) (.seq (zv6) (.ret)) (.skip)))) (.seq (zv5) (.seq (zv4) (.seq (zv3) (.ret)))))):=zh T (F:=f23) (by kernel_rfl) (by kernel_rfl) (by kernel_rfl)
@[go_sem↓]theorem run23:RR zv9 [oo 1 (.box 34 (.tmp 0)),oo 2 (oi 0)]∧RR zv8 [oo 6 (oF 34 1 0),oo 7 (oL 22 6),oo 8 (oN 7 22),oo 9 (.call ⟨.value (.func 112),#[.tmp 8,.const (.int .i64 8)],#[3,3]⟩),oo 3 (oG 9)]∧RR zv7 [oo 10 (oM 3),oo 11 (oC .neq 29 10 0)]∧RR zv6 [oo 12 (oM 3),oo 2 (oG 12)]∧RR zv5 [oo 13 (.makeFunc (.func 113) #[] #[.tmp 1]),oo 4 (oG 13)]∧RR zv4 [oo 14 (.makeFunc (.func 118) #[] #[.tmp 1]),oo 5 (oG 14)]∧RD zv3 23 [oo 15 (oF 34 1 0),oo 16 (oL 22 15),oo 17 (oM 4),oo 18 (o2 119 16 17 22 190),oo 19 (o1 114 18 187),oo 20 (oF 34 1 1),oo 21 (oL 3 20),oo 22 (o1 117 21 3),oo 23 (oF 34 1 2),oo 24 (oL 32 23),oo 25 (o1 120 24 32),oo 26 (oF 34 1 2),oo 27 (oL 32 26),oo 28 (oM 5),oo 29 (o2 121 27 28 32 191),oo 30 (o1 114 29 187),oo 31 (.buildSlice 187 4 #[(0,.tmp 19),(1,.tmp 22),(2,.tmp 25),(3,.tmp 30)]),oo 32 (o1 114 31 187),oo 2 (oG 32)] [(0,2),(1,2),(0,5),(1,5),(2,5),(3,5),(4,5),(0,6),(1,6),(2,6),(3,6),(4,6),(0,8),(1,8),(2,8),(3,8),(4,8),(5,8),(6,8),(7,8),(0,9),(1,9),(2,9),(3,9),(4,9),(5,9),(6,9),(7,9),(0,11),(1,11),(2,11),(3,11),(4,11),(5,11),(6,11),(7,11),(8,11),(9,11),(10,11),(0,12),(1,12),(2,12),(3,12),(4,12),(5,12),(6,12),(7,12),(8,12),(9,12),(10,12),(0,13),(1,13),(2,13),(3,13),(4,13),(5,13),(6,13),(7,13),(8,13),(9,13),(10,13),(11,13),(12,13)]∧zu T 23 [.tmp 2] false:=by refine⟨zz T ?_,zz T ?_,zz T ?_,zz T ?_,zz T ?_,zz T ?_,xt T (id:=6) ?_ ?_,zf T (F:=f23) ?_ ?_ ?_⟩<;>kernel_rfl
@[go_sem]theorem fr89:x9 T 89 false none false∧zd T 89 4:=by refine⟨⟨?_,?_,?_⟩,zm T (F:=f89) ?_ ?_⟩<;>kernel_rfl
def zuh:=nv 2 f39
def zug:=nv 12 f39
def zuf:=nv 52 f39
def zue:=nv 14 f39
theorem xfk:qq T 39 7 (.seq (zuh) (.seq (.seq (zug) (.cond (.tmp 5) (.seq (zuf) (.ret)) (.skip))) (.seq (zue) (.ret)))):=zh T (F:=f39) (by kernel_rfl) (by kernel_rfl) (by kernel_rfl)
@[go_sem↓]theorem run39:RR zuh [oo 4 (oi 0)]∧RR zug [oo 5 (oM 0)]∧RR zuf [oo 6 (oM 1),oo 4 (oG 6)]∧RR zue [oo 4 (oi 0)]∧zu T 39 [.tmp 4] false:=by refine⟨zz T ?_,zz T ?_,zz T ?_,zz T ?_,zf T (F:=f39) ?_ ?_ ?_⟩<;>kernel_rfl
@[go_sem]theorem fr172:x9 T 172 false none false∧zd T 172 23:=by refine⟨⟨?_,?_,?_⟩,zm T (F:=f172) ?_ ?_⟩<;>kernel_rfl
def zsv:=nv 2 f88
def zsu:=nv 6 f88
def zst:=nv 28 f88
def zjv:=nv 116 f88
def zss:=nv 464 f88
def zsq:=nv 932 f88
def zsr:=nv 467 f88
def zl2:=nv 30 f88
def zl1:=nv 62 f88
theorem xff:qq T 88 32 (.seq (zsv) (.seq (zsu) (.seq (.seq (zst) (.block 0 (.loop zjv))) (.seq (zl2) (.seq (zl1) (.ret)))))):=zh T (F:=f88) (by kernel_rfl) (by kernel_rfl) (by kernel_rfl)
@[go_sem↓]theorem run88:RR zsv [oo 1 (.box 25 (.tmp 0)),oo 2 (.alloc 25)]∧RR zsu [oo 5 (oF 25 1 1),oo 6 (oL 3 5),oo 7 (.build 25 #[(1,.tmp 6)]),oo 3 (.alloc 25),ow 25 3 7]∧RR zst [oo 4 (oi 0)]∧RR zss [oo 8 (oM 4),oo 9 (oF 25 1 0),oo 10 (oL 22 9),oo 11 (oN 10 22),oo 12 (oB .lss 3 8 11)]∧RD zsq 88 [oo 15 (oF 25 3 0),oo 16 (oL 22 15),oo 17 (.buildSlice 28 0 #[]),oo 18 (oF 25 1 0),oo 19 (oL 22 18),oo 20 (oM 4),oo 21 (oI 22 19 20),oo 22 (oL 28 21),oo 23 (oA 17 22 28),oo 24 (oS 22 23),oo 25 (oA 16 24 22),oo 26 (oF 25 3 0),ow 22 26 25] [(0,2),(1,2),(0,3),(1,3),(2,3),(0,4),(1,4),(2,4),(0,5),(1,5),(2,5),(3,5),(4,5),(0,6),(1,6),(2,6),(0,7),(1,7),(2,7),(0,8),(1,8),(0,9),(1,9)]∧RR zsr [oo 13 (oM 4),oo 14 (oC .add 3 13 1),oo 4 (oG 14)]∧RI zjv (.seq (.seq (zss) (.cond (.tmp 12) (.skip) (.exit 0))) (.seq (.block 1 (zsq)) (zsr)))∧z7 T 88 zjv [1,2,3,4]∧RR zl2 [oo 27 (oF 25 1 2),oo 28 (oL 23 27),oo 29 (o1 172 28 23),oo 30 (oF 25 3 2),ow 23 30 29]∧RR zl1 [oo 31 (oL 25 3),ow 25 2 31]∧zu T 88 [.cell 2 25] false:=by refine⟨zz T ?_,zz T ?_,zz T ?_,zz T ?_,xt T (id:=5) ?_ ?_,zz T ?_,zl T ?_,z8 T ?_,zz T ?_,zz T ?_,zf T (F:=f88) ?_ ?_ ?_⟩<;>kernel_rfl
def zsp:=nv 2 f89
def zso:=nv 12 f89
def zsn:=nv 52 f89
def zsm:=nv 28 f89
def zju:=nv 116 f89
def zsl:=nv 464 f89
def zsj:=nv 1864 f89
def zsi:=nv 7460 f89
def zsk:=nv 467 f89
def zl0:=nv 30 f89
theorem yn5:qq T 89 26 (.seq (zsp) (.seq (.seq (zso) (.cond (.tmp 10) (.seq (zsn) (.ret)) (.skip))) (.seq (.seq (zsm) (.block 0 (.loop zju))) (.seq (zl0) (.ret))))):=zh T (F:=f89) (by kernel_rfl) (by kernel_rfl) (by kernel_rfl)
@[go_sem↓]theorem run89:RR zsp [oo 4 (.assign (.const (.bool false)))]∧RR zso [oo 6 (oM 0),oo 7 (oN 6 28),oo 8 (oM 1),oo 9 (oN 8 28),oo 10 (oB .neq 3 7 9)]∧RR zsn [oo 4 (.assign (.const (.bool false)))]∧RR zsm [oo 5 (oi 0)]∧RR zsl [oo 11 (oM 5),oo 12 (oM 0),oo 13 (oN 12 28),oo 14 (oB .lss 3 11 13)]∧RD zsj 89 [oo 17 (oM 0),oo 18 (oM 5),oo 19 (oI 28 17 18),oo 20 (oL 3 19),oo 21 (oM 1),oo 22 (oM 5),oo 23 (oI 28 21 22),oo 24 (oL 3 23),oo 25 (oB .neq 3 20 24)] [(0,1),(0,4),(1,4),(2,4),(3,4),(0,5),(1,5),(2,5),(3,5),(4,5),(0,6),(1,6),(2,6),(3,6),(0,7),(1,7),(2,7),(3,7)]∧RR zsi [oo 4 (.assign (.const (.bool false)))]∧RR zsk [oo 15 (oM 5),oo 16 (oC .add 3 15 1),oo 5 (oG 16)]∧RI zju (.seq (.seq (zsl) (.cond (.tmp 14) (.skip) (.exit 0))) (.seq (.block 1 (.seq (zsj) (.cond (.tmp 25) (.seq (zsi) (.ret)) (.skip)))) (zsk)))∧z7 T 89 zju [0,1,5]∧RR zl0 [oo 4 (.assign (.const (.bool true)))]∧zu T 89 [.tmp 4] false:=by refine⟨zz T ?_,zz T ?_,zz T ?_,zz T ?_,zz T ?_,xt T (id:=6) ?_ ?_,zz T ?_,zz T ?_,zl T ?_,z8 T ?_,zz T ?_,zf T (F:=f89) ?_ ?_ ?_⟩<;>kernel_rfl
@[go_sem]theorem fr90:x9 T 90 false none false∧zd T 90 3:=by refine⟨⟨?_,?_,?_⟩,zm T (F:=f90) ?_ ?_⟩<;>kernel_rfl
def zsh:=nv 2 f90
def zsg:=nv 6 f90
theorem xfe:qq T 90 16 (.seq (zsh) (.seq (zsg) (.ret))):=zh T (F:=f90) (by kernel_rfl) (by kernel_rfl) (by kernel_rfl)
@[go_sem↓]theorem run90:RR zsh [oo 6 (oi 0)]∧RR zsg [oo 7 (oM 0),oo 8 (oM 1),oo 9 (oB .lss 3 7 8),oo 10 (oM 9),of 11 (oM 0) 10,of 12 (oM 2) 10,of 13 (oB .gtr 3 11 12) 10,oo 14 (.pick (.tmp 10) (.const (.bool true)) (.tmp 13)),oo 15 (.call ⟨.value (.func 39),#[.tmp 14,.const (.int .i64 3)],#[4,3]⟩),oo 6 (oG 15)]∧zu T 90 [.tmp 6] false:=by refine⟨zz T ?_,zz T ?_,zf T (F:=f90) ?_ ?_ ?_⟩<;>kernel_rfl
def yk0:=nv 2 f101
def ykz:=nv 12 f101
def yky:=nv 52 f101
def ykx:=nv 28 f101
def zkv:=nv 116 f101
def ykw:=nv 464 f101
def yku:=nv 1864 f101
def ykt:=nv 7460 f101
def ykv:=nv 467 f101
def zm6:=nv 30 f101
theorem xht:qq T 101 34 (.seq (yk0) (.seq (.seq (ykz) (.cond (.tmp 11) (.seq (yky) (.ret)) (.skip))) (.seq (.seq (ykx) (.block 0 (.loop zkv))) (.seq (zm6) (.ret))))):=zh T (F:=f101) (by kernel_rfl) (by kernel_rfl) (by kernel_rfl)
@[go_sem↓]theorem run101:RR yk0 [oo 2 (.assign (.const (.bool false)))]∧RR ykz [oo 4 (oM 0),oo 5 (oN 4 23),oo 6 (oC .gtr 3 5 6),oo 7 (oM 6),ot 8 (oM 0) 7,ot 9 (oN 8 23) 7,ot 10 (oC .neq 3 9 9) 7,oo 11 (.pick (.tmp 7) (.tmp 10) (.const (.bool false)))]∧RR yky [oo 2 (.assign (.const (.bool false)))]∧RR ykx [oo 3 (oi 0)]∧RR ykw [oo 12 (oM 3),oo 13 (oM 0),oo 14 (oN 13 23),oo 15 (oB .lss 3 12 14)]∧RR yku [oo 18 (oM 0),oo 19 (oM 3),oo 20 (oI 23 18 19),oo 21 (oF 140 20 0),oo 22 (oL 9 21),oo 23 (oN 22 9),oo 24 (oC .gtr 3 23 40),oo 25 (oM 24),of 26 (oM 0) 25,of 27 (oM 3) 25,of 28 (oI 23 26 27) 25,of 29 (oF 140 28 2) 25,of 30 (oL 72 29) 25,of 31 (oN 30 72) 25,of 32 (oC .gtr 3 31 9) 25,oo 33 (.pick (.tmp 25) (.const (.bool true)) (.tmp 32))]∧RR ykt [oo 2 (.assign (.const (.bool false)))]∧RR ykv [oo 16 (oM 3),oo 17 (oC .add 3 16 1),oo 3 (oG 17)]∧RI zkv (.seq (.seq (ykw) (.cond (.tmp 15) (.skip) (.exit 0))) (.seq (.block 1 (.seq (yku) (.cond (.tmp 33) (.seq (ykt) (.ret)) (.skip)))) (ykv)))∧z7 T 101 zkv [0,3]∧RR zm6 [oo 2 (.assign (.const (.bool true)))]∧zu T 101 [.tmp 2] false:=by refine⟨zz T ?_,zz T ?_,zz T ?_,zz T ?_,zz T ?_,zz T ?_,zz T ?_,zz T ?_,zl T ?_,z8 T ?_,zz T ?_,zf T (F:=f101) ?_ ?_ ?_⟩<;>kernel_rfl
@[go_sem]theorem fr183:x9 T 183 false none false∧zd T 183 3:=by refine⟨⟨?_,?_,?_⟩,zm T (F:=f183) ?_ ?_⟩<;>kernel_rfl
@[go_sem]theorem fr184:x9 T 184 false none false∧zd T 184 28:=by refine⟨⟨?_,?_,?_⟩,zm T (F:=f184) ?_ ?_⟩<;>kernel_rfl
@[go_sem]theorem fr185:x9 T 185 false none false∧zd T 185 3:=by refine⟨⟨?_,?_,?_⟩,zm T (F:=f185) ?_ ?_⟩<;>kernel_rfl
def yks:=nv 2 f106
def ykr:=nv 6 f106
def ykq:=nv 28 f106
def zku:=nv 116 f106
def ykp:=nv 232 f106
def yko:=nv 3736 f106
def ykn:=nv 3737 f106
def ykm:=nv 935 f106
def zm5:=nv 30 f106
theorem xhs:qq T 106 23 (.seq (yks) (.seq (ykr) (.seq (.seq (ykq) (.block 0 (.loop zku))) (.seq (zm5) (.ret))))):=zh T (F:=f106) (by kernel_rfl) (by kernel_rfl) (by kernel_rfl)
@[go_sem↓]theorem run106:RR yks [oo 1 (.box 34 (.tmp 0)),oo 2 on]∧RR ykr [oo 3 on]∧RR ykq [oo 5 (oF 34 1 0),oo 6 (oL 22 5),oo 7 (.indexAddr 22 (.tmp 6) (.const (.int .i64 0))),oo 8 (oL 28 7),oo 9 (oN 8 28),oo 10 (.move (.const (.int .i64 0)))]∧RR ykp [oo 11 (oB .lss 3 10 9)]∧RR yko [oo 12 (oM 10),oo 4 (.alloc 3),ow 3 4 12]∧RR ykn [oo 13 (oM 3),oo 14 (oF 34 1 0),oo 15 (oL 22 14),oo 16 (.makeFunc (.func 185) #[] #[.tmp 4]),oo 17 (o2 184 15 16 22 182),oo 18 (o1 183 17 28),oo 19 (oS 28 18),oo 20 (oA 13 19 28),oo 3 (oG 20)]∧RR ykm [oo 21 (oC .add 3 10 1),oo 10 (oM 21)]∧RI zku (.seq (ykp) (.seq (.cond (.tmp 11) (.skip) (.exit 0)) (.seq (.block 1 (.seq (yko) (ykn))) (ykm))))∧z7 T 106 zku [1,3,9,10]∧RR zm5 [oo 22 (oM 3),oo 2 (oG 22)]∧zu T 106 [.tmp 2] false:=by refine⟨zz T ?_,zz T ?_,zz T ?_,zz T ?_,zz T ?_,zz T ?_,zz T ?_,zl T ?_,z8 T ?_,zz T ?_,zf T (F:=f106) ?_ ?_ ?_⟩<;>kernel_rfl
@[go_sem]theorem fr186:x9 T 186 false none false∧zd T 186 22:=by refine⟨⟨?_,?_,?_⟩,zm T (F:=f186) ?_ ?_⟩<;>kernel_rfl
@[go_sem]theorem fr187:x9 T 187 false none false∧zd T 187 28:=by refine⟨⟨?_,?_,?_⟩,zm T (F:=f187) ?_ ?_⟩<;>kernel_rfl
def ykl:=nv 2 f107
def ykk:=nv 6 f107
def ykj:=nv 14 f107
theorem xhr:qq T 107 10 (.seq (ykl) (.seq (ykk) (.seq (ykj) (.ret)))):=zh T (F:=f107) (by kernel_rfl) (by kernel_rfl) (by kernel_rfl)
@[go_sem↓]theorem run107:RR ykl [oo 1 (.box 34 (.tmp 0)),oo 2 on]∧RR ykk [oo 4 (oL 34 1),oo 5 (o1 106 4 34),oo 3 (.alloc 28),ow 28 3 5]∧RR ykj [oo 6 (oF 34 1 0),oo 7 (oL 22 6),oo 8 (.makeFunc (.func 187) #[] #[.tmp 3]),oo 9 (o2 186 7 8 22 47),oo 2 (oG 9)]∧zu T 107 [.tmp 2] false:=by refine⟨zz T ?_,zz T ?_,zz T ?_,zf T (F:=f107) ?_ ?_ ?_⟩<;>kernel_rfl
def yki:=nv 2 f108
def ykh:=nv 12 f108
def zkt:=nv 52 f108
def ykg:=nv 208 f108
def yke:=nv 840 f108
def ykd:=nv 3364 f108
def ykf:=nv 211 f108
def zm4:=nv 14 f108
theorem xhq:qq T 108 19 (.seq (yki) (.seq (.seq (ykh) (.block 0 (.loop zkt))) (.seq (zm4) (.ret)))):=zh T (F:=f108) (by kernel_rfl) (by kernel_rfl) (by kernel_rfl)
@[go_sem↓]theorem run108:RR yki [oo 2 (oi 0)]∧RR ykh [oo 3 (oi 0)]∧RR ykg [oo 4 (oM 3),oo 5 (oM 0),oo 6 (oN 5 28),oo 7 (oB .lss 3 4 6)]∧RR yke [oo 10 (oM 0),oo 11 (oM 3),oo 12 (oI 28 10 11),oo 13 (oL 3 12),oo 14 (oC .neq 3 13 0)]∧RR ykd [oo 15 (oM 0),oo 16 (oM 3),oo 17 (oI 28 15 16),oo 18 (oL 3 17),oo 2 (oG 18)]∧RR ykf [oo 8 (oM 3),oo 9 (oC .add 3 8 1),oo 3 (oG 9)]∧RI zkt (.seq (.seq (ykg) (.cond (.tmp 7) (.skip) (.exit 0))) (.seq (.block 1 (.seq (yke) (.cond (.tmp 14) (.seq (ykd) (.ret)) (.skip)))) (ykf)))∧z7 T 108 zkt [0,3]∧RR zm4 [oo 2 (oi 0)]∧zu T 108 [.tmp 2] false:=by refine⟨zz T ?_,zz T ?_,zz T ?_,zz T ?_,zz T ?_,zz T ?_,zl T ?_,z8 T ?_,zz T ?_,zf T (F:=f108) ?_ ?_ ?_⟩<;>kernel_rfl
def ykc:=nv 2 f109
def ykb:=nv 6 f109
theorem xhp:qq T 109 5 (.seq (ykc) (.seq (ykb) (.ret))):=zh T (F:=f109) (by kernel_rfl) (by kernel_rfl) (by kernel_rfl)
@[go_sem↓]theorem run109:RR ykc [oo 2 (oi 0)]∧RR ykb [oo 3 (oM 0),oo 4 (.call ⟨.value (.func 90),#[.tmp 3,.const (.int .i64 0),.const (.int .i64 1000000)],#[3,3,3]⟩),oo 2 (oG 4)]∧zu T 109 [.tmp 2] false:=by refine⟨zz T ?_,zz T ?_,zf T (F:=f109) ?_ ?_ ?_⟩<;>kernel_rfl
@[go_sem]theorem fr149:x9 T 149 false none false∧zd T 149 3:=by refine⟨⟨?_,?_,?_⟩,zm T (F:=f149) ?_ ?_⟩<;>kernel_rfl
@[go_sem]theorem fr188:x9 T 188 false none false∧zd T 188 3:=by refine⟨⟨?_,?_,?_⟩,zm T (F:=f188) ?_ ?_⟩<;>kernel_rfl
@[go_sem]theorem fr189:x9 T 189 false none false∧zd T 189 3:=by refine⟨⟨?_,?_,?_⟩,zm T (F:=f189) ?_ ?_⟩<;>kernel_rfl
def yka:=nv 2 f110
def yj9:=nv 12 f110
def yj8:=nv 52 f110
def yj7:=nv 28 f110
def zks:=nv 116 f110
def yj6:=nv 464 f110
def yj4:=nv 1864 f110
def yj3:=nv 3730 f110
def yj2:=nv 7462 f110
def yj1:=nv 29852 f110
def yj5:=nv 467 f110
def zm3:=nv 30 f110
theorem xho:qq T 110 51 (.seq (yka) (.seq (.seq (yj9) (.cond (.tmp 8) (.seq (yj8) (.ret)) (.skip))) (.seq (.seq (yj7) (.block 0 (.loop zks))) (.seq (zm3) (.ret))))):=zh T (F:=f110) (by kernel_rfl) (by kernel_rfl) (by kernel_rfl)
@[go_sem↓]theorem run110:RR yka [oo 2 (oi 0)]∧RR yj9 [oo 6 (oM 0),oo 7 (oN 6 23),oo 8 (oC .gtr 3 7 8)]∧RR yj8 [oo 2 (oi 5)]∧RR yj7 [oo 3 (oi 0)]∧RR yj6 [oo 9 (oM 3),oo 10 (oM 0),oo 11 (oN 10 23),oo 12 (oB .lss 3 9 11)]∧RR yj4 [oo 15 (oM 0),oo 16 (oM 3),oo 17 (oI 23 15 16),oo 18 (oL 140 17),oo 4 (.alloc 140),ow 140 4 18]∧RD yj3 110 [oo 19 (oF 140 4 0),oo 20 (oL 9 19),oo 21 (o1 188 20 9),oo 22 (oM 0),oo 23 (oM 3),oo 24 (.slice 23 (.tmp 22) none (some (.tmp 23)) none),oo 25 (oF 140 4 0),oo 26 (oL 9 25),oo 27 (o2 189 24 26 23 9),oo 28 (oC .geq 3 27 0),oo 29 (.call ⟨.value (.func 39),#[.tmp 28,.const (.int .i64 9)],#[4,3]⟩),oo 30 (oF 140 4 1),oo 31 (oL 3 30),oo 32 (.call ⟨.value (.func 90),#[.tmp 31,.const (.int .i64 0),.const (.int .i64 7)],#[3,3,3]⟩),oo 33 (oF 140 4 2),oo 34 (oL 72 33),oo 35 (oN 34 72),oo 36 (oC .eql 3 35 0),oo 37 (.call ⟨.value (.func 39),#[.tmp 36,.const (.int .i64 12)],#[4,3]⟩),oo 38 (oF 140 4 2),oo 39 (oL 72 38),oo 40 (oN 39 72),oo 41 (oC .gtr 3 40 8),oo 42 (.call ⟨.value (.func 39),#[.tmp 41,.const (.int .i64 5)],#[4,3]⟩),oo 43 (oF 140 4 2),oo 44 (oL 72 43),oo 45 (o1 149 44 72),oo 46 (.buildSlice 28 6 #[(0,.tmp 21),(1,.tmp 29),(2,.tmp 32),(3,.tmp 37),(4,.tmp 42),(5,.tmp 45)]),oo 47 (o1 108 46 28),oo 5 (oG 47)] [(0,3),(1,3),(2,3),(0,4),(1,4),(2,4),(3,4),(0,5),(1,5),(2,5),(0,6),(1,6),(2,6),(3,6),(4,6),(5,6),(0,7),(1,7),(2,7),(3,7),(4,7),(5,7),(0,11),(1,11),(2,11),(3,11),(4,11),(5,11),(6,11),(7,11),(8,11),(9,11),(10,11),(0,12),(1,12),(2,12),(3,12),(4,12),(5,12),(6,12),(7,12),(8,12),(9,12),(10,12),(0,14),(1,14),(2,14),(3,14),(4,14),(5,14),(6,14),(7,14),(8,14),(9,14),(10,14),(11,14),(12,14),(13,14),(0,15),(1,15),(2,15),(3,15),(4,15),(5,15),(6,15),(7,15),(8,15),(9,15),(10,15),(11,15),(12,15),(13,15),(0,16),(1,16),(2,16),(3,16),(4,16),(5,16),(6,16),(7,16),(8,16),(9,16),(10,16),(11,16),(12,16),(13,16),(0,17),(1,17),(2,17),(3,17),(4,17),(5,17),(6,17),(7,17),(8,17),(9,17),(10,17),(11,17),(12,17),(13,17),(0,19),(1,19),(2,19),(3,19),(4,19),(5,19),(6,19),(7,19),(8,19),(9,19),(10,19),(11,19),(12,19),(13,19),(14,19),(15,19),(16,19),(17,19),(18,19),(0,20),(1,20),(2,20),(3,20),(4,20),(5,20),(6,20),(7,20),(8,20),(9,20),(10,20),(11,20),(12,20),(13,20),(14,20),(15,20),(16,20),(17,20),(18,20),(0,21),(1,21),(2,21),(3,21),(4,21),(5,21),(6,21),(7,21),(8,21),(9,21),(10,21),(11,21),(12,21),(13,21),(14,21),(15,21),(16,21),(17,21),(18,21),(0,22),(1,22),(2,22),(3,22),(4,22),(5,22),(6,22),(7,22),(8,22),(9,22),(10,22),(11,22),(12,22),(13,22),(14,22),(15,22),(16,22),(17,22),(18,22),(0,24),(1,24),(2,24),(3,24),(4,24),(5,24),(6,24),(7,24),(8,24),(9,24),(10,24),(11,24),(12,24),(13,24),(14,24),(15,24),(16,24),(17,24),(18,24),(19,24),(20,24),(21,24),(22,24),(23,24),(0,25),(1,25),(2,25),(3,25),(4,25),(5,25),(6,25),(7,25),(8,25),(9,25),(10,25),(11,25),(12,25),(13,25),(14,25),(15,25),(16,25),(17,25),(18,25),(19,25),(20,25),(21,25),(22,25),(23,25)]∧RR yj2 [oo 48 (oM 5),oo 49 (oC .neq 3 48 0)]∧RR yj1 [oo 50 (oM 5),oo 2 (oG 50)]∧RR yj5 [oo 13 (oM 3),oo 14 (oC .add 3 13 1),oo 3 (oG 14)]∧RI zks (.seq (.seq (yj6) (.cond (.tmp 12) (.skip) (.exit 0))) (.seq (.block 1 (.seq (yj4) (.seq (yj3) (.seq (yj2) (.cond (.tmp 49) (.seq (yj1) (.ret)) (.skip)))))) (yj5)))∧z7 T 110 zks [0,3]∧RR zm3 [oo 2 (oi 0)]∧zu T 110 [.tmp 2] false:=by refine⟨zz T ?_,zz T ?_,zz T ?_,zz T ?_,zz T ?_,zz T ?_,xt T (id:=7) ?_ ?_,zz T ?_,zz T ?_,zz T ?_,zl T ?_,z8 T ?_,zz T ?_,zf T (F:=f110) ?_ ?_ ?_⟩<;>kernel_rfl
@[go_sem]theorem fr115:x9 T 115 false none false∧zd T 115 29:=by refine⟨⟨?_,?_,?_⟩,zm T (F:=f115) ?_ ?_⟩<;>kernel_rfl
def yj0:=nv 2 f112
def yjz:=nv 6 f112
theorem xhn:qq T 112 14 (.seq (yj0) (.seq (yjz) (.ret))):=zh T (F:=f112) (by kernel_rfl) (by kernel_rfl) (by kernel_rfl)
@[go_sem↓]theorem run112:RR yj0 [oo 4 (oi 0)]∧RR yjz [oo 5 (oM 0),oo 6 (oC .eql 3 5 0),oo 7 (.call ⟨.value (.func 115),#[.tmp 6,.const (.int .i64 12)],#[4,29]⟩),oo 8 (oM 0),oo 9 (oM 1),oo 10 (oB .gtr 3 8 9),oo 11 (.call ⟨.value (.func 115),#[.tmp 10,.const (.int .i64 5)],#[4,29]⟩),oo 12 (.buildSlice 187 2 #[(0,.tmp 7),(1,.tmp 11)]),oo 13 (o1 114 12 187),oo 4 (oG 13)]∧zu T 112 [.tmp 4] false:=by refine⟨zz T ?_,zz T ?_,zf T (F:=f112) ?_ ?_ ?_⟩<;>kernel_rfl
@[go_sem]theorem fr116:x9 T 116 false none false∧zd T 116 187:=by refine⟨⟨?_,?_,?_⟩,zm T (F:=f116) ?_ ?_⟩<;>kernel_rfl
def yjy:=nv 2 f113
def yjx:=nv 6 f113
theorem xhm:qq T 113 21 (.seq (yjy) (.seq (yjx) (.ret))):=zh T (F:=f113) (by kernel_rfl) (by kernel_rfl) (by kernel_rfl)
@[go_sem↓]theorem run113:RR yjy [oo 3 (oi 0)]∧RD yjx 113 [oo 4 (oM 0),oo 5 (oN 4 28),oo 6 (.call ⟨.value (.func 112),#[.tmp 5,.const (.int .i64 8)],#[3,3]⟩),oo 7 (oM 0),oo 8 (oN 7 28),oo 9 (oF 34 1 0),oo 10 (oL 22 9),oo 11 (.indexAddr 22 (.tmp 10) (.const (.int .i64 0))),oo 12 (oL 28 11),oo 13 (oN 12 28),oo 14 (oB .neq 3 8 13),oo 15 (.call ⟨.value (.func 115),#[.tmp 14,.const (.int .i64 2)],#[4,29]⟩),oo 16 (oM 0),oo 17 (.call ⟨.value (.func 116),#[.tmp 16,.func 117],#[28,189]⟩),oo 18 (o1 114 17 187),oo 19 (.buildSlice 187 3 #[(0,.tmp 6),(1,.tmp 15),(2,.tmp 18)]),oo 20 (o1 114 19 187),oo 3 (oG 20)] [(0,3),(1,3),(2,3),(0,4),(1,4),(2,4),(0,5),(1,5),(2,5),(3,5),(4,5),(0,6),(1,6),(2,6),(3,6),(4,6),(0,7),(1,7),(2,7),(3,7),(4,7),(0,8),(1,8),(2,8),(3,8),(4,8),(0,9),(1,9),(2,9),(3,9),(4,9),(0,10),(1,10),(2,10),(0,12),(1,12),(2,12),(3,12),(4,12),(5,12),(6,12),(7,12),(8,12),(9,12),(10,12),(11,12)]∧zu T 113 [.tmp 3] false:=by refine⟨zz T ?_,xt T (id:=1) ?_ ?_,zf T (F:=f113) ?_ ?_ ?_⟩<;>kernel_rfl
def yjw:=nv 2 f114
def yjv:=nv 12 f114
def zkr:=nv 52 f114
def yju:=nv 104 f114
def yjt:=nv 1688 f114
def yjs:=nv 3378 f114
def yjr:=nv 13516 f114
def yjq:=nv 423 f114
def zm2:=nv 14 f114
theorem xhl:qq T 114 15 (.seq (yjw) (.seq (.seq (yjv) (.block 0 (.loop zkr))) (.seq (zm2) (.ret)))):=zh T (F:=f114) (by kernel_rfl) (by kernel_rfl) (by kernel_rfl)
@[go_sem↓]theorem run114:RR yjw [oo 2 (oi 0)]∧RR yjv [oo 5 (oM 0),oo 6 (oN 5 187),oo 7 (.move (.const (.int .i64 0)))]∧RR yju [oo 8 (oB .lss 3 7 6)]∧RR yjt [oo 9 (oI 187 5 7),oo 10 (oL 29 9),oo 4 (oG 10)]∧RR yjs [oo 11 (oM 4),oo 12 (oC .neq 29 11 0)]∧RR yjr [oo 13 (oM 4),oo 2 (oG 13)]∧RR yjq [oo 14 (oC .add 3 7 1),oo 7 (oM 14)]∧RI zkr (.seq (yju) (.seq (.cond (.tmp 8) (.skip) (.exit 0)) (.seq (.block 1 (.seq (yjt) (.seq (yjs) (.cond (.tmp 12) (.seq (yjr) (.ret)) (.skip))))) (yjq))))∧z7 T 114 zkr [5,6,7]∧RR zm2 [oo 2 (oi 0)]∧zu T 114 [.tmp 2] false:=by refine⟨zz T ?_,zz T ?_,zz T ?_,zz T ?_,zz T ?_,zz T ?_,zz T ?_,zl T ?_,z8 T ?_,zz T ?_,zf T (F:=f114) ?_ ?_ ?_⟩<;>kernel_rfl
def yjp:=nv 2 f115
def yjo:=nv 12 f115
def yjn:=nv 52 f115
def yjm:=nv 14 f115
theorem xhk:qq T 115 7 (.seq (yjp) (.seq (.seq (yjo) (.cond (.tmp 5) (.seq (yjn) (.ret)) (.skip))) (.seq (yjm) (.ret)))):=zh T (F:=f115) (by kernel_rfl) (by kernel_rfl) (by kernel_rfl)
@[go_sem↓]theorem run115:RR yjp [oo 4 (oi 0)]∧RR yjo [oo 5 (oM 0)]∧RR yjn [oo 6 (oM 1),oo 4 (oG 6)]∧RR yjm [oo 4 (oi 0)]∧zu T 115 [.tmp 4] false:=by refine⟨zz T ?_,zz T ?_,zz T ?_,zz T ?_,zf T (F:=f115) ?_ ?_ ?_⟩<;>kernel_rfl
def yjl:=nv 2 f116
def yjk:=nv 6 f116
def yjj:=nv 28 f116
def zgq:=nv 116 f116
def yji:=nv 232 f116
def yjh:=nv 3736 f116
def yjg:=nv 3737 f116
def yjf:=nv 935 f116
def zh5:=nv 30 f116
theorem yoh:qq T 116 22 (.seq (yjl) (.seq (yjk) (.seq (.seq (yjj) (.block 0 (.loop zgq))) (.seq (zh5) (.ret))))):=zh T (F:=f116) (by kernel_rfl) (by kernel_rfl) (by kernel_rfl)
@[go_sem↓]theorem run116:RR yjl [oo 4 on]∧RR yjk [oo 5 on]∧RR yjj [oo 8 (oM 0),oo 9 (oN 8 28),oo 10 (.move (.const (.int .i64 0)))]∧RR yji [oo 11 (oB .lss 3 10 9)]∧RR yjh [oo 12 (oI 28 8 10),oo 13 (oL 3 12),oo 7 (oG 13)]∧RR yjg [oo 14 (oM 5),oo 15 (oM 1),oo 16 (oM 7),oo 17 (.call ⟨.value (.tmp 15),#[.tmp 16],#[3]⟩),oo 18 (oS 187 17),oo 19 (oA 14 18 187),oo 5 (oG 19)]∧RR yjf [oo 20 (oC .add 3 10 1),oo 10 (oM 20)]∧RI zgq (.seq (yji) (.seq (.cond (.tmp 11) (.skip) (.exit 0)) (.seq (.block 1 (.seq (yjh) (yjg))) (yjf))))∧z7 T 116 zgq [1,5,8,9,10]∧RR zh5 [oo 21 (oM 5),oo 4 (oG 21)]∧zu T 116 [.tmp 4] false:=by refine⟨zz T ?_,zz T ?_,zz T ?_,zz T ?_,zz T ?_,zz T ?_,zz T ?_,zl T ?_,z8 T ?_,zz T ?_,zf T (F:=f116) ?_ ?_ ?_⟩<;>kernel_rfl
@[go_sem]theorem fr137:x9 T 137 false none false∧zd T 137 29:=by refine⟨⟨?_,?_,?_⟩,zm T (F:=f137) ?_ ?_⟩<;>kernel_rfl
def yje:=nv 2 f117
def yjd:=nv 6 f117
theorem xhj:qq T 117 5 (.seq (yje) (.seq (yjd) (.ret))):=zh T (F:=f117) (by kernel_rfl) (by kernel_rfl) (by kernel_rfl)
@[go_sem↓]theorem run117:RR yje [oo 2 (oi 0)]∧RR yjd [oo 3 (oM 0),oo 4 (.call ⟨.value (.func 137),#[.tmp 3,.const (.int .i64 0),.const (.int .i64 1000000)],#[3,3,3]⟩),oo 2 (oG 4)]∧zu T 117 [.tmp 2] false:=by refine⟨zz T ?_,zz T ?_,zf T (F:=f117) ?_ ?_ ?_⟩<;>kernel_rfl
def yjc:=nv 2 f118
def yjb:=nv 6 f118
theorem xhi:qq T 118 23 (.seq (yjc) (.seq (yjb) (.ret))):=zh T (F:=f118) (by kernel_rfl) (by kernel_rfl) (by kernel_rfl)
@[go_sem↓]theorem run118:RR yjc [oo 2 (.box 180 (.tmp 0)),oo 3 (oi 0)]∧RD yjb 118 [oo 4 (oF 180 2 1),oo 5 (oL 3 4),oo 6 (oF 34 1 0),oo 7 (oL 22 6),oo 8 (oN 7 22),oo 9 (oB .geq 3 5 8),oo 10 (.call ⟨.value (.func 115),#[.tmp 9,.const (.int .i64 10)],#[4,29]⟩),oo 11 (oF 180 2 2),oo 12 (oL 72 11),oo 13 (oN 12 72),oo 14 (oF 34 1 0),oo 15 (oL 22 14),oo 16 (.indexAddr 22 (.tmp 15) (.const (.int .i64 0))),oo 17 (oL 28 16),oo 18 (oN 17 28),oo 19 (oB .neq 3 13 18),oo 20 (.call ⟨.value (.func 115),#[.tmp 19,.const (.int .i64 2)],#[4,29]⟩),oo 21 (.buildSlice 187 2 #[(0,.tmp 10),(1,.tmp 20)]),oo 22 (o1 114 21 187),oo 3 (oG 22)] [(0,2),(1,2),(0,3),(1,3),(0,4),(1,4),(0,7),(1,7),(2,7),(3,7),(4,7),(5,7),(6,7),(0,8),(1,8),(2,8),(3,8),(4,8),(5,8),(6,8),(0,9),(1,9),(2,9),(3,9),(4,9),(5,9),(6,9),(0,10),(1,10),(2,10),(3,10),(4,10),(5,10),(6,10),(7,10),(8,10),(9,10),(0,11),(1,11),(2,11),(3,11),(4,11),(5,11),(6,11),(7,11),(8,11),(9,11),(0,12),(1,12),(2,12),(3,12),(4,12),(5,12),(6,12),(7,12),(8,12),(9,12),(0,13),(1,13),(2,13),(3,13),(4,13),(5,13),(6,13),(7,13),(8,13),(9,13),(0,14),(1,14),(2,14),(3,14),(4,14),(5,14),(6,14),(7,14),(8,14),(9,14),(0,15),(1,15),(2,15),(3,15),(4,15),(5,15),(6,15)]∧zu T 118 [.tmp 3] false:=by refine⟨zz T ?_,xt T (id:=1) ?_ ?_,zf T (F:=f118) ?_ ?_ ?_⟩<;>kernel_rfl
def yja:=nv 2 f119
def yi9:=nv 6 f119
def yi8:=nv 28 f119
def zkq:=nv 116 f119
def yi7:=nv 232 f119
def yi6:=nv 3736 f119
def yi5:=nv 3737 f119
def yi4:=nv 935 f119
def zm1:=nv 30 f119
theorem xhh:qq T 119 22 (.seq (yja) (.seq (yi9) (.seq (.seq (yi8) (.block 0 (.loop zkq))) (.seq (zm1) (.ret))))):=zh T (F:=f119) (by kernel_rfl) (by kernel_rfl) (by kernel_rfl)
@[go_sem↓]theorem run119:RR yja [oo 4 on]∧RR yi9 [oo 5 on]∧RR yi8 [oo 8 (oM 0),oo 9 (oN 8 22),oo 10 (.move (.const (.int .i64 0)))]∧RR yi7 [oo 11 (oB .lss 3 10 9)]∧RR yi6 [oo 12 (oI 22 8 10),oo 13 (oL 28 12),oo 7 (oG 13)]∧RR yi5 [oo 14 (oM 5),oo 15 (oM 1),oo 16 (oM 7),oo 17 (.call ⟨.value (.tmp 15),#[.tmp 16],#[28]⟩),oo 18 (oS 187 17),oo 19 (oA 14 18 187),oo 5 (oG 19)]∧RR yi4 [oo 20 (oC .add 3 10 1),oo 10 (oM 20)]∧RI zkq (.seq (yi7) (.seq (.cond (.tmp 11) (.skip) (.exit 0)) (.seq (.block 1 (.seq (yi6) (yi5))) (yi4))))∧z7 T 119 zkq [1,5,8,9,10]∧RR zm1 [oo 21 (oM 5),oo 4 (oG 21)]∧zu T 119 [.tmp 4] false:=by refine⟨zz T ?_,zz T ?_,zz T ?_,zz T ?_,zz T ?_,zz T ?_,zz T ?_,zl T ?_,z8 T ?_,zz T ?_,zf T (F:=f119) ?_ ?_ ?_⟩<;>kernel_rfl
@[go_sem]theorem fr190:x9 T 190 false none false∧zd T 190 4:=by refine⟨⟨?_,?_,?_⟩,zm T (F:=f190) ?_ ?_⟩<;>kernel_rfl
@[go_sem]theorem fr191:x9 T 191 false none false∧zd T 191 29:=by refine⟨⟨?_,?_,?_⟩,zm T (F:=f191) ?_ ?_⟩<;>kernel_rfl
def yi3:=nv 2 f120
def yi2:=nv 12 f120
def yiz:=nv 52 f120
def yiy:=nv 14 f120
def yix:=nv 60 f120
def zgp:=nv 244 f120
def yiw:=nv 488 f120
def yiv:=nv 7832 f120
def yiu:=nv 31332 f120
def yit:=nv 62666 f120
def yis:=nv 250668 f120
def yi1:=nv 15667 f120
def yi0:=nv 1959 f120
def zh4:=nv 62 f120
theorem zoq:qq T 120 38 (.seq (yi3) (.seq (.seq (yi2) (.cond (.tmp 9) (.seq (yiz) (.ret)) (.skip))) (.seq (yiy) (.seq (.seq (yix) (.block 0 (.loop zgp))) (.seq (zh4) (.ret)))))):=zh T (F:=f120) (by kernel_rfl) (by kernel_rfl) (by kernel_rfl)
@[go_sem↓]theorem run120:RR yi3 [oo 2 (oi 0)]∧RR yi2 [oo 7 (oM 0),oo 8 (oN 7 32),oo 9 (oC .gtr 3 8 8)]∧RR yiz [oo 2 (oi 5)]∧RR yiy [oo 10 (.makeMap 276 none),oo 3 (oG 10)]∧RR yix [oo 11 (oM 0),oo 12 (oN 11 32),oo 13 (.move (.const (.int .i64 0)))]∧RR yiw [oo 14 (oB .lss 3 13 12)]∧RR yiv [oo 15 (oI 32 11 13),oo 16 (oL 180 15),oo 5 (.alloc 180),ow 180 5 16]∧RD yiu 120 [oo 17 (oF 180 5 0),oo 18 (oL 9 17),oo 19 (o1 190 18 9),oo 20 (.unOp .not 4 (.tmp 19)),oo 21 (.call ⟨.value (.func 115),#[.tmp 20,.const (.int .i64 8)],#[4,29]⟩),oo 22 (oM 3),oo 23 (oF 180 5 0),oo 24 (oL 9 23),oo 25 (.lookup 276 (.tmp 22) (.tmp 24) false),oo 26 (.call ⟨.value (.func 115),#[.tmp 25,.const (.int .i64 9)],#[4,29]⟩),oo 27 (oL 180 5),oo 28 (o1 191 27 180),oo 29 (.buildSlice 187 3 #[(0,.tmp 21),(1,.tmp 26),(2,.tmp 28)]),oo 30 (o1 114 29 187),oo 6 (oG 30)] [(0,5),(1,5),(2,5),(3,5),(4,5),(0,6),(1,6),(2,6),(3,6),(4,6),(5,6),(0,7),(1,7),(2,7),(3,7),(4,7),(5,7),(0,8),(1,8),(2,8),(3,8),(4,8),(0,10),(1,10),(2,10),(3,10),(4,10),(5,10),(6,10),(7,10),(8,10),(9,10)]∧RR yit [oo 31 (oM 6),oo 32 (oC .neq 29 31 0)]∧RR yis [oo 33 (oM 6),oo 2 (oG 33)]∧RR yi1 [oo 34 (oM 3),oo 35 (oF 180 5 0),oo 36 (oL 9 35),⟨none,.mapUpdate 276 (.tmp 34) (.tmp 36) (.const (.bool true)),none⟩]∧RR yi0 [oo 37 (oC .add 3 13 1),oo 13 (oM 37)]∧RI zgp (.seq (yiw) (.seq (.cond (.tmp 14) (.skip) (.exit 0)) (.seq (.block 1 (.seq (yiv) (.seq (.seq (yiu) (.seq (yit) (.cond (.tmp 32) (.seq (yis) (.ret)) (.skip)))) (yi1)))) (yi0))))∧z7 T 120 zgp [3,11,12,13]∧RR zh4 [oo 2 (oi 0)]∧zu T 120 [.tmp 2] false:=by refine⟨zz T ?_,zz T ?_,zz T ?_,zz T ?_,zz T ?_,zz T ?_,zz T ?_,xt T (id:=7) ?_ ?_,zz T ?_,zz T ?_,zz T ?_,zz T ?_,zl T ?_,z8 T ?_,zz T ?_,zf T (F:=f120) ?_ ?_ ?_⟩<;>kernel_rfl
def yir:=nv 2 f121
def yiq:=nv 6 f121
def yip:=nv 28 f121
def zkp:=nv 116 f121
def yio:=nv 232 f121
def yin:=nv 3736 f121
def yim:=nv 3737 f121
def yil:=nv 935 f121
def zm0:=nv 30 f121
theorem xhg:qq T 121 22 (.seq (yir) (.seq (yiq) (.seq (.seq (yip) (.block 0 (.loop zkp))) (.seq (zm0) (.ret))))):=zh T (F:=f121) (by kernel_rfl) (by kernel_rfl) (by kernel_rfl)
@[go_sem↓]theorem run121:RR yir [oo 4 on]∧RR yiq [oo 5 on]∧RR yip [oo 8 (oM 0),oo 9 (oN 8 32),oo 10 (.move (.const (.int .i64 0)))]∧RR yio [oo 11 (oB .lss 3 10 9)]∧RR yin [oo 12 (oI 32 8 10),oo 13 (oL 180 12),oo 7 (.alloc 180),ow 180 7 13]∧RR yim [oo 14 (oM 5),oo 15 (oM 1),oo 16 (oL 180 7),oo 17 (.call ⟨.value (.tmp 15),#[.tmp 16],#[180]⟩),oo 18 (oS 187 17),oo 19 (oA 14 18 187),oo 5 (oG 19)]∧RR yil [oo 20 (oC .add 3 10 1),oo 10 (oM 20)]∧RI zkp (.seq (yio) (.seq (.cond (.tmp 11) (.skip) (.exit 0)) (.seq (.block 1 (.seq (yin) (yim))) (yil))))∧z7 T 121 zkp [1,5,8,9,10]∧RR zm0 [oo 21 (oM 5),oo 4 (oG 21)]∧zu T 121 [.tmp 4] false:=by refine⟨zz T ?_,zz T ?_,zz T ?_,zz T ?_,zz T ?_,zz T ?_,zz T ?_,zl T ?_,z8 T ?_,zz T ?_,zf T (F:=f121) ?_ ?_ ?_⟩<;>kernel_rfl
def ygi:=nv 2 f137
def ygh:=nv 6 f137
theorem xg6:qq T 137 16 (.seq (ygi) (.seq (ygh) (.ret))):=zh T (F:=f137) (by kernel_rfl) (by kernel_rfl) (by kernel_rfl)
@[go_sem↓]theorem run137:RR ygi [oo 6 (oi 0)]∧RR ygh [oo 7 (oM 0),oo 8 (oM 1),oo 9 (oB .lss 3 7 8),oo 10 (oM 9),of 11 (oM 0) 10,of 12 (oM 2) 10,of 13 (oB .gtr 3 11 12) 10,oo 14 (.pick (.tmp 10) (.const (.bool true)) (.tmp 13)),oo 15 (.call ⟨.value (.func 115),#[.tmp 14,.const (.int .i64 3)],#[4,29]⟩),oo 6 (oG 15)]∧zu T 137 [.tmp 6] false:=by refine⟨zz T ?_,zz T ?_,zf T (F:=f137) ?_ ?_ ?_⟩<;>kernel_rfl
@[go_sem]theorem fr145:x9 T 145 false none false∧zd T 145 187:=by refine⟨⟨?_,?_,?_⟩,zm T (F:=f145) ?_ ?_⟩<;>kernel_rfl
def yfz:=nv 2 f145
def yfy:=nv 6 f145
def yfx:=nv 28 f145
def zkk:=nv 116 f145
def yfw:=nv 232 f145
def yfv:=nv 3736 f145
def yfu:=nv 3737 f145
def yft:=nv 935 f145
def zmt:=nv 30 f145
theorem yod:qq T 145 22 (.seq (yfz) (.seq (yfy) (.seq (.seq (yfx) (.block 0 (.loop zkk))) (.seq (zmt) (.ret))))):=zh T (F:=f145) (by kernel_rfl) (by kernel_rfl) (by kernel_rfl)
@[go_sem↓]theorem run145:RR yfz [oo 4 on]∧RR yfy [oo 5 on]∧RR yfx [oo 8 (oM 0),oo 9 (oN 8 72),oo 10 (.move (.const (.int .i64 0)))]∧RR yfw [oo 11 (oB .lss 3 10 9)]∧RR yfv [oo 12 (oI 72 8 10),oo 13 (oL 142 12),oo 7 (.alloc 142),ow 142 7 13]∧RR yfu [oo 14 (oM 5),oo 15 (oM 1),oo 16 (oL 142 7),oo 17 (.call ⟨.value (.tmp 15),#[.tmp 16],#[142]⟩),oo 18 (oS 187 17),oo 19 (oA 14 18 187),oo 5 (oG 19)]∧RR yft [oo 20 (oC .add 3 10 1),oo 10 (oM 20)]∧RI zkk (.seq (yfw) (.seq (.cond (.tmp 11) (.skip) (.exit 0)) (.seq (.block 1 (.seq (yfv) (yfu))) (yft))))∧z7 T 145 zkk [1,5,8,9,10]∧RR zmt [oo 21 (oM 5),oo 4 (oG 21)]∧zu T 145 [.tmp 4] false:=by refine⟨zz T ?_,zz T ?_,zz T ?_,zz T ?_,zz T ?_,zz T ?_,zz T ?_,zl T ?_,z8 T ?_,zz T ?_,zf T (F:=f145) ?_ ?_ ?_⟩<;>kernel_rfl
@[go_sem]theorem fr146:x9 T 146 false none false∧zd T 146 29:=by refine⟨⟨?_,?_,?_⟩,zm T (F:=f146) ?_ ?_⟩<;>kernel_rfl
def yfs:=nv 2 f146
def yfr:=nv 6 f146
theorem xgz:qq T 146 17 (.seq (yfs) (.seq (yfr) (.ret))):=zh T (F:=f146) (by kernel_rfl) (by kernel_rfl) (by kernel_rfl)
@[go_sem↓]theorem run146:RR yfs [oo 1 (.box 142 (.tmp 0)),oo 2 (oi 0)]∧RD yfr 146 [oo 3 (oF 142 1 0),oo 4 (oL 3 3),oo 5 (o1 117 4 3),oo 6 (oF 142 1 1),oo 7 (oL 3 6),oo 8 (o1 117 7 3),oo 9 (oF 142 1 0),oo 10 (oL 3 9),oo 11 (oF 142 1 1),oo 12 (oL 3 11),oo 13 (oB .gtr 3 10 12),oo 14 (.call ⟨.value (.func 115),#[.tmp 13,.const (.int .i64 11)],#[4,29]⟩),oo 15 (.buildSlice 187 3 #[(0,.tmp 5),(1,.tmp 8),(2,.tmp 14)]),oo 16 (o1 114 15 187),oo 2 (oG 16)] [(0,3),(1,3),(2,3),(0,4),(1,4),(2,4),(0,6),(1,6),(2,6),(3,6),(4,6),(5,6),(0,7),(1,7),(2,7),(3,7),(4,7),(5,7),(0,8),(1,8),(2,8),(3,8),(4,8),(5,8),(6,8),(7,8),(0,9),(1,9),(2,9),(3,9),(4,9),(5,9),(6,9),(7,9),(0,10),(1,10),(2,10),(3,10),(4,10),(5,10)]∧zu T 146 [.tmp 2] false:=by refine⟨zz T ?_,xt T (id:=1) ?_ ?_,zf T (F:=f146) ?_ ?_ ?_⟩<;>kernel_rfl
@[go_sem]theorem fr212:x9 T 212 false none false∧zd T 212 3:=by refine⟨⟨?_,?_,?_⟩,zm T (F:=f212) ?_ ?_⟩<;>kernel_rfl
def yfi:=nv 2 f149
def yfh:=nv 12 f149
def zkj:=nv 52 f149
def yfg:=nv 208 f149
def yfe:=nv 840 f149
def yfd:=nv 1682 f149
def yfc:=nv 6732 f149
def yff:=nv 211 f149
def zms:=nv 14 f149
theorem xgw:qq T 149 19 (.seq (yfi) (.seq (.seq (yfh) (.block 0 (.loop zkj))) (.seq (zms) (.ret)))):=zh T (F:=f149) (by kernel_rfl) (by kernel_rfl) (by kernel_rfl)
@[go_sem↓]theorem run149:RR yfi [oo 2 (oi 0)]∧RR yfh [oo 3 (oi 0)]∧RR yfg [oo 5 (oM 3),oo 6 (oM 0),oo 7 (oN 6 72),oo 8 (oB .lss 3 5 7)]∧RR yfe [oo 11 (oM 0),oo 12 (oM 3),oo 13 (oI 72 11 12),oo 14 (oL 142 13),oo 15 (.call ⟨.value (.func 212),#[.tmp 14,.const (.int .i64 0),.const (.int .i64 1000000)],#[142,3,3]⟩),oo 4 (oG 15)]∧RR yfd [oo 16 (oM 4),oo 17 (oC .neq 3 16 0)]∧RR yfc [oo 18 (oM 4),oo 2 (oG 18)]∧RR yff [oo 9 (oM 3),oo 10 (oC .add 3 9 1),oo 3 (oG 10)]∧RI zkj (.seq (.seq (yfg) (.cond (.tmp 8) (.skip) (.exit 0))) (.seq (.block 1 (.seq (yfe) (.seq (yfd) (.cond (.tmp 17) (.seq (yfc) (.ret)) (.skip))))) (yff)))∧z7 T 149 zkj [0,3]∧RR zms [oo 2 (oi 0)]∧zu T 149 [.tmp 2] false:=by refine⟨zz T ?_,zz T ?_,zz T ?_,zz T ?_,zz T ?_,zz T ?_,zz T ?_,zl T ?_,z8 T ?_,zz T ?_,zf T (F:=f149) ?_ ?_ ?_⟩<;>kernel_rfl
def ydu:=nv 2 f172
def ydt:=nv 6 f172
def yds:=nv 28 f172
def zkf:=nv 116 f172
def ydr:=nv 464 f172
def ydp:=nv 1864 f172
def ydo:=nv 3730 f172
def ydn:=nv 3731 f172
def ydq:=nv 467 f172
def zmo:=nv 30 f172
theorem xgu:qq T 172 26 (.seq (ydu) (.seq (ydt) (.seq (.seq (yds) (.block 0 (.loop zkf))) (.seq (zmo) (.ret))))):=zh T (F:=f172) (by kernel_rfl) (by kernel_rfl) (by kernel_rfl)
@[go_sem↓]theorem run172:RR ydu [oo 2 on]∧RR ydt [oo 3 on]∧RR yds [oo 4 (oi 0)]∧RR ydr [oo 6 (oM 4),oo 7 (oM 0),oo 8 (oN 7 23),oo 9 (oB .lss 3 6 8)]∧RR ydp [oo 12 (oM 0),oo 13 (oM 4),oo 14 (oI 23 12 13),oo 15 (oL 140 14),oo 5 (.alloc 140),ow 140 5 15]∧RR ydo [oo 16 (.buildSlice 72 0 #[]),oo 17 (oF 140 5 2),oo 18 (oL 72 17),oo 19 (oA 16 18 72),oo 20 (oF 140 5 2),ow 72 20 19]∧RR ydn [oo 21 (oM 3),oo 22 (oL 140 5),oo 23 (oS 23 22),oo 24 (oA 21 23 23),oo 3 (oG 24)]∧RR ydq [oo 10 (oM 4),oo 11 (oC .add 3 10 1),oo 4 (oG 11)]∧RI zkf (.seq (.seq (ydr) (.cond (.tmp 9) (.skip) (.exit 0))) (.seq (.block 1 (.seq (ydp) (.seq (ydo) (ydn)))) (ydq)))∧z7 T 172 zkf [0,3,4]∧RR zmo [oo 25 (oM 3),oo 2 (oG 25)]∧zu T 172 [.tmp 2] false:=by refine⟨zz T ?_,zz T ?_,zz T ?_,zz T ?_,zz T ?_,zz T ?_,zz T ?_,zz T ?_,zl T ?_,z8 T ?_,zz T ?_,zf T (F:=f172) ?_ ?_ ?_⟩<;>kernel_rfl
@[go_sem]theorem xer:x9 T 229 true none false:=⟨by kernel_rfl,by kernel_rfl,by kernel_rfl⟩
@[go_sem]theorem yvx:zb8 T 229:=zdo T (F:=f229) (by kernel_rfl) (by kernel_rfl)
def ycl:=nv 2 f183
def yck:=nv 6 f183
def ycj:=nv 14 f183
def yci:=nv 30 f183
def ych:=nv 62 f183
theorem xgn:qq T 183 19 (.seq (ycl) (.seq (yck) (.seq (ycj) (.seq (yci) (.seq (ych) (.ret)))))):=zh T (F:=f183) (by kernel_rfl) (by kernel_rfl) (by kernel_rfl)
@[go_sem↓]theorem run183:RR ycl [oo 2 (oi 0)]∧RR yck [oo 4 (oM 0),oo 5 (oN 4 28),oo 6 (.makeSlice 28 (.tmp 5) (.tmp 5)),oo 3 (oG 6)]∧RR ycj [oo 7 (oM 3),oo 8 (oM 0),oo 9 (.call ⟨.builtin .copy,#[.tmp 7,.tmp 8],#[28,28]⟩)]∧RR yci [oo 10 (oM 3),oo 11 (o1 229 10 28)]∧RR ych [oo 12 (oM 3),oo 13 (oM 3),oo 14 (oN 13 28),oo 15 (oC .sub 3 14 1),oo 16 (oC .quo 3 15 2),oo 17 (oI 28 12 16),oo 18 (oL 3 17),oo 2 (oG 18)]∧zu T 183 [.tmp 2] false:=by refine⟨zz T ?_,zz T ?_,zz T ?_,zz T ?_,zz T ?_,zf T (F:=f183) ?_ ?_ ?_⟩<;>kernel_rfl
def ycg:=nv 2 f184
def ycf:=nv 6 f184
def yce:=nv 28 f184
def zkc:=nv 116 f184
def ycd:=nv 232 f184
def ycc:=nv 3736 f184
def ycb:=nv 3737 f184
def yca:=nv 935 f184
def zmk:=nv 30 f184
theorem xgm:qq T 184 22 (.seq (ycg) (.seq (ycf) (.seq (.seq (yce) (.block 0 (.loop zkc))) (.seq (zmk) (.ret))))):=zh T (F:=f184) (by kernel_rfl) (by kernel_rfl) (by kernel_rfl)
@[go_sem↓]theorem run184:RR ycg [oo 4 on]∧RR ycf [oo 5 on]∧RR yce [oo 8 (oM 0),oo 9 (oN 8 22),oo 10 (.move (.const (.int .i64 0)))]∧RR ycd [oo 11 (oB .lss 3 10 9)]∧RR ycc [oo 12 (oI 22 8 10),oo 13 (oL 28 12),oo 7 (oG 13)]∧RR ycb [oo 14 (oM 5),oo 15 (oM 1),oo 16 (oM 7),oo 17 (.call ⟨.value (.tmp 15),#[.tmp 16],#[28]⟩),oo 18 (oS 28 17),oo 19 (oA 14 18 28),oo 5 (oG 19)]∧RR yca [oo 20 (oC .add 3 10 1),oo 10 (oM 20)]∧RI zkc (.seq (ycd) (.seq (.cond (.tmp 11) (.skip) (.exit 0)) (.seq (.block 1 (.seq (ycc) (ycb))) (yca))))∧z7 T 184 zkc [1,5,8,9,10]∧RR zmk [oo 21 (oM 5),oo 4 (oG 21)]∧zu T 184 [.tmp 4] false:=by refine⟨zz T ?_,zz T ?_,zz T ?_,zz T ?_,zz T ?_,zz T ?_,zz T ?_,zl T ?_,z8 T ?_,zz T ?_,zf T (F:=f184) ?_ ?_ ?_⟩<;>kernel_rfl
def yb9:=nv 2 f185
def yb8:=nv 6 f185
theorem xgl:qq T 185 8 (.seq (yb9) (.seq (yb8) (.ret))):=zh T (F:=f185) (by kernel_rfl) (by kernel_rfl) (by kernel_rfl)
@[go_sem↓]theorem run185:RR yb9 [oo 3 (oi 0)]∧RR yb8 [oo 4 (oM 0),oo 5 (oL 3 1),oo 6 (oI 28 4 5),oo 7 (oL 3 6),oo 3 (oG 7)]∧zu T 185 [.tmp 3] false:=by refine⟨zz T ?_,zz T ?_,zf T (F:=f185) ?_ ?_ ?_⟩<;>kernel_rfl
def yb7:=nv 2 f186
def yb6:=nv 6 f186
def yb5:=nv 28 f186
def zkb:=nv 116 f186
def yb4:=nv 232 f186
def yb3:=nv 3736 f186
def yb2:=nv 3737 f186
def yb1:=nv 935 f186
def zmj:=nv 30 f186
theorem xgk:qq T 186 22 (.seq (yb7) (.seq (yb6) (.seq (.seq (yb5) (.block 0 (.loop zkb))) (.seq (zmj) (.ret))))):=zh T (F:=f186) (by kernel_rfl) (by kernel_rfl) (by kernel_rfl)
@[go_sem↓]theorem run186:RR yb7 [oo 4 on]∧RR yb6 [oo 5 on]∧RR yb5 [oo 8 (oM 0),oo 9 (oN 8 22),oo 10 (.move (.const (.int .i64 0)))]∧RR yb4 [oo 11 (oB .lss 3 10 9)]∧RR yb3 [oo 12 (oI 22 8 10),oo 13 (oL 28 12),oo 7 (oG 13)]∧RR yb2 [oo 14 (oM 5),oo 15 (oM 1),oo 16 (oM 7),oo 17 (.call ⟨.value (.tmp 15),#[.tmp 16],#[28]⟩),oo 18 (oS 22 17),oo 19 (oA 14 18 22),oo 5 (oG 19)]∧RR yb1 [oo 20 (oC .add 3 10 1),oo 10 (oM 20)]∧RI zkb (.seq (yb4) (.seq (.cond (.tmp 11) (.skip) (.exit 0)) (.seq (.block 1 (.seq (yb3) (yb2))) (yb1))))∧z7 T 186 zkb [1,5,8,9,10]∧RR zmj [oo 21 (oM 5),oo 4 (oG 21)]∧zu T 186 [.tmp 4] false:=by refine⟨zz T ?_,zz T ?_,zz T ?_,zz T ?_,zz T ?_,zz T ?_,zz T ?_,zl T ?_,z8 T ?_,zz T ?_,zf T (F:=f186) ?_ ?_ ?_⟩<;>kernel_rfl
def yb0:=nv 2 f187
def ybz:=nv 6 f187
def yby:=nv 28 f187
def zka:=nv 116 f187
def ybx:=nv 232 f187
def ybw:=nv 3736 f187
def ybv:=nv 3737 f187
def ybu:=nv 935 f187
def zmi:=nv 30 f187
theorem xgj:qq T 187 25 (.seq (yb0) (.seq (ybz) (.seq (.seq (yby) (.block 0 (.loop zka))) (.seq (zmi) (.ret))))):=zh T (F:=f187) (by kernel_rfl) (by kernel_rfl) (by kernel_rfl)
@[go_sem↓]theorem run187:RR yb0 [oo 3 on]∧RR ybz [oo 4 on]∧RR yby [oo 7 (oM 0),oo 8 (oN 7 28),oo 9 (.move (.const (.int .i64 0)))]∧RR ybx [oo 10 (oB .lss 3 9 8)]∧RR ybw [oo 11 (oM 9),oo 12 (oI 28 7 9),oo 13 (oL 3 12),oo 5 (oG 11),oo 6 (oG 13)]∧RR ybv [oo 14 (oM 4),oo 15 (oL 28 1),oo 16 (oM 5),oo 17 (oI 28 15 16),oo 18 (oL 3 17),oo 19 (oM 6),oo 20 (oB .sub 3 18 19),oo 21 (oS 28 20),oo 22 (oA 14 21 28),oo 4 (oG 22)]∧RR ybu [oo 23 (oC .add 3 9 1),oo 9 (oM 23)]∧RI zka (.seq (ybx) (.seq (.cond (.tmp 10) (.skip) (.exit 0)) (.seq (.block 1 (.seq (ybw) (ybv))) (ybu))))∧z7 T 187 zka [1,4,7,8,9]∧RR zmi [oo 24 (oM 4),oo 3 (oG 24)]∧zu T 187 [.tmp 3] false:=by refine⟨zz T ?_,zz T ?_,zz T ?_,zz T ?_,zz T ?_,zz T ?_,zz T ?_,zl T ?_,z8 T ?_,zz T ?_,zf T (F:=f187) ?_ ?_ ?_⟩<;>kernel_rfl
@[go_sem]theorem fr230:x9 T 230 false none false∧zd T 230 4:=by refine⟨⟨?_,?_,?_⟩,zm T (F:=f230) ?_ ?_⟩<;>kernel_rfl
def ybt:=nv 2 f188
def ybs:=nv 6 f188
theorem xgi:qq T 188 7 (.seq (ybt) (.seq (ybs) (.ret))):=zh T (F:=f188) (by kernel_rfl) (by kernel_rfl) (by kernel_rfl)
@[go_sem↓]theorem run188:RR ybt [oo 2 (oi 0)]∧RR ybs [oo 3 (oM 0),oo 4 (o1 230 3 9),oo 5 (.unOp .not 4 (.tmp 4)),oo 6 (.call ⟨.value (.func 39),#[.tmp 5,.const (.int .i64 8)],#[4,3]⟩),oo 2 (oG 6)]∧zu T 188 [.tmp 2] false:=by refine⟨zz T ?_,zz T ?_,zf T (F:=f188) ?_ ?_ ?_⟩<;>kernel_rfl
def ybr:=nv 2 f189
def ybq:=nv 12 f189
def zj9:=nv 52 f189
def ybp:=nv 208 f189
def ybn:=nv 840 f189
def ybm:=nv 3364 f189
def ybo:=nv 211 f189
def zmh:=nv 14 f189
theorem xgh:qq T 189 20 (.seq (ybr) (.seq (.seq (ybq) (.block 0 (.loop zj9))) (.seq (zmh) (.ret)))):=zh T (F:=f189) (by kernel_rfl) (by kernel_rfl) (by kernel_rfl)
@[go_sem↓]theorem run189:RR ybr [oo 4 (oi 0)]∧RR ybq [oo 5 (oi 0)]∧RR ybp [oo 6 (oM 5),oo 7 (oM 0),oo 8 (oN 7 23),oo 9 (oB .lss 3 6 8)]∧RR ybn [oo 12 (oM 0),oo 13 (oM 5),oo 14 (oI 23 12 13),oo 15 (oF 140 14 0),oo 16 (oL 9 15),oo 17 (oM 1),oo 18 (oB .eql 9 16 17)]∧RR ybm [oo 19 (oM 5),oo 4 (oG 19)]∧RR ybo [oo 10 (oM 5),oo 11 (oC .add 3 10 1),oo 5 (oG 11)]∧RI zj9 (.seq (.seq (ybp) (.cond (.tmp 9) (.skip) (.exit 0))) (.seq (.block 1 (.seq (ybn) (.cond (.tmp 18) (.seq (ybm) (.ret)) (.skip)))) (ybo)))∧z7 T 189 zj9 [0,1,5]∧RR zmh [oo 4 (oi (-1))]∧zu T 189 [.tmp 4] false:=by refine⟨zz T ?_,zz T ?_,zz T ?_,zz T ?_,zz T ?_,zz T ?_,zl T ?_,z8 T ?_,zz T ?_,zf T (F:=f189) ?_ ?_ ?_⟩<;>kernel_rfl
def ybd:=nv 2 f190
def ybc:=nv 12 f190
def zj7:=nv 52 f190
def ybb:=nv 104 f190
def yba:=nv 844 f190
def ya9:=nv 1690 f190
def ya8:=nv 3382 f190
def ya7:=nv 13532 f190
def zmf:=nv 14 f190
theorem xgg:qq T 190 51 (.seq (ybd) (.seq (.seq (ybc) (.block 0 (.loop zj7))) (.seq (zmf) (.ret)))):=zh T (F:=f190) (by kernel_rfl) (by kernel_rfl) (by kernel_rfl)
@[go_sem↓]theorem run190:RR ybd [oo 2 (.assign (.const (.bool false)))]∧RR ybc [oo 6 (oM 0),oo 7 (.range 9 (.tmp 6))]∧RR ybb [oo 8 (.next (.tmp 7) true),oo 9 (oX 8 0)]∧RR yba [oo 10 (oX 8 1),oo 11 (oX 8 2),oo 3 (oG 10),oo 4 (oG 11)]∧RR ya9 [oo 12 (oM 4),oo 13 (.binOp .geq 21 (.tmp 12) (.const (.int .i32 97)) 21),oo 14 (oM 13),ot 15 (oM 4) 14,ot 16 (.binOp .leq 21 (.tmp 15) (.const (.int .i32 122)) 21) 14,oo 17 (.pick (.tmp 14) (.tmp 16) (.const (.bool false))),oo 18 (oM 17),of 19 (oM 4) 18,of 20 (.binOp .geq 21 (.tmp 19) (.const (.int .i32 65)) 21) 18,of 21 (oM 20) 18,ot 22 (oM 4) 21,ot 23 (.binOp .leq 21 (.tmp 22) (.const (.int .i32 90)) 21) 21,of 24 (.pick (.tmp 21) (.tmp 23) (.const (.bool false))) 18,oo 25 (.pick (.tmp 18) (.const (.bool true)) (.tmp 24)),oo 5 (oG 25)]∧RR ya8 [oo 26 (oM 5),oo 27 (.unOp .not 4 (.tmp 26)),oo 28 (oM 27),ot 29 (oM 3) 28,ot 30 (oC .eql 3 29 0) 28,ot 31 (oM 30) 28,of 32 (oM 4) 31,of 33 (.binOp .neq 21 (.tmp 32) (.const (.int .i32 95)) 21) 31,of 34 (oM 33) 31,ot 35 (oM 4) 34,ot 36 (.binOp .lss 21 (.tmp 35) (.const (.int .i32 48)) 21) 34,ot 37 (oM 36) 34,of 38 (oM 4) 37,of 39 (.binOp .gtr 21 (.tmp 38) (.const (.int .i32 57)) 21) 37,ot 40 (.pick (.tmp 37) (.const (.bool true)) (.tmp 39)) 34,of 41 (.pick (.tmp 34) (.tmp 40) (.const (.bool false))) 31,ot 42 (.pick (.tmp 31) (.const (.bool true)) (.tmp 41)) 28,oo 43 (.pick (.tmp 28) (.tmp 42) (.const (.bool false)))]∧RR ya7 [oo 2 (.assign (.const (.bool false)))]∧RI zj7 (.seq (ybb) (.seq (.cond (.tmp 9) (.skip) (.exit 0)) (.block 1 (.seq (yba) (.seq (ya9) (.seq (ya8) (.cond (.tmp 43) (.seq (ya7) (.ret)) (.skip))))))))∧z7 T 190 zj7 [0,7]∧RR zmf [oo 44 (oM 0),oo 45 (.binOp .neq 9 (.tmp 44) (.const (.string ⟨#[]⟩)) 9),oo 46 (oM 45),ot 47 (oM 0) 46,ot 48 (oN 47 9) 46,ot 49 (oC .leq 3 48 24) 46,oo 50 (.pick (.tmp 46) (.tmp 49) (.const (.bool false))),oo 2 (oG 50)]∧zu T 190 [.tmp 2] false:=by refine⟨zz T ?_,zz T ?_,zz T ?_,zz T ?_,zz T ?_,zz T ?_,zz T ?_,zl T ?_,z8 T ?_,zz T ?_,zf T (F:=f190) ?_ ?_ ?_⟩<;>kernel_rfl
def ya6:=nv 2 f191
def ya5:=nv 6 f191
theorem xgf:qq T 191 16 (.seq (ya6) (.seq (ya5) (.ret))):=zh T (F:=f191) (by kernel_rfl) (by kernel_rfl) (by kernel_rfl)
@[go_sem↓]theorem run191:RR ya6 [oo 1 (.box 180 (.tmp 0)),oo 2 (oi 0)]∧RD ya5 191 [oo 3 (oF 180 1 1),oo 4 (oL 3 3),oo 5 (.call ⟨.value (.func 137),#[.tmp 4,.const (.int .i64 0),.const (.int .i64 7)],#[3,3,3]⟩),oo 6 (oF 180 1 2),oo 7 (oL 72 6),oo 8 (oN 7 72),oo 9 (.call ⟨.value (.func 112),#[.tmp 8,.const (.int .i64 8)],#[3,3]⟩),oo 10 (oF 180 1 2),oo 11 (oL 72 10),oo 12 (.call ⟨.value (.func 145),#[.tmp 11,.func 146],#[72,219]⟩),oo 13 (o1 114 12 187),oo 14 (.buildSlice 187 3 #[(0,.tmp 5),(1,.tmp 9),(2,.tmp 13)]),oo 15 (o1 114 14 187),oo 2 (oG 15)] [(0,3),(1,3),(2,3),(0,4),(1,4),(2,4),(0,5),(1,5),(2,5),(0,7),(1,7),(2,7),(3,7),(4,7),(5,7),(6,7),(0,8),(1,8),(2,8),(3,8),(4,8),(5,8),(6,8)]∧zu T 191 [.tmp 2] false:=by refine⟨zz T ?_,xt T (id:=1) ?_ ?_,zf T (F:=f191) ?_ ?_ ?_⟩<;>kernel_rfl
def zxt:=nv 2 f212
def zxs:=nv 6 f212
theorem xfz:qq T 212 25 (.seq (zxt) (.seq (zxs) (.ret))):=zh T (F:=f212) (by kernel_rfl) (by kernel_rfl) (by kernel_rfl)
@[go_sem↓]theorem run212:RR zxt [oo 3 (.box 142 (.tmp 0)),oo 6 (oi 0)]∧RD zxs 212 [oo 7 (oF 142 3 0),oo 8 (oL 3 7),oo 9 (oM 1),oo 10 (oM 2),oo 11 (.call ⟨.value (.func 90),#[.tmp 8,.tmp 9,.tmp 10],#[3,3,3]⟩),oo 12 (oF 142 3 1),oo 13 (oL 3 12),oo 14 (oM 1),oo 15 (oM 2),oo 16 (.call ⟨.value (.func 90),#[.tmp 13,.tmp 14,.tmp 15],#[3,3,3]⟩),oo 17 (oF 142 3 0),oo 18 (oL 3 17),oo 19 (oF 142 3 1),oo 20 (oL 3 19),oo 21 (oB .gtr 3 18 20),oo 22 (.call ⟨.value (.func 39),#[.tmp 21,.const (.int .i64 11)],#[4,3]⟩),oo 23 (.buildSlice 28 3 #[(0,.tmp 11),(1,.tmp 16),(2,.tmp 22)]),oo 24 (o1 108 23 28),oo 6 (oG 24)] [(0,2),(1,2),(0,3),(1,3),(2,3),(0,5),(1,5),(2,5),(3,5),(4,5),(0,6),(1,6),(2,6),(3,6),(4,6),(0,7),(1,7),(2,7),(3,7),(4,7),(5,7),(6,7),(0,8),(1,8),(2,8),(3,8),(4,8),(5,8),(6,8),(7,8),(0,10),(1,10),(2,10),(3,10),(4,10),(5,10),(6,10),(7,10),(8,10),(9,10),(0,11),(1,11),(2,11),(3,11),(4,11),(5,11),(6,11),(7,11),(8,11),(9,11),(0,12),(1,12),(2,12),(3,12),(4,12),(5,12),(6,12),(7,12),(8,12),(9,12),(10,12),(11,12),(0,13),(1,13),(2,13),(3,13),(4,13),(5,13),(6,13),(7,13),(8,13),(9,13),(10,13),(11,13),(0,14),(1,14),(2,14),(3,14),(4,14),(5,14),(6,14),(7,14),(8,14),(9,14)]∧zu T 212 [.tmp 6] false:=by refine⟨zz T ?_,xt T (id:=1) ?_ ?_,zf T (F:=f212) ?_ ?_ ?_⟩<;>kernel_rfl
@[go_sem]theorem fr233:x9 T 233 false none false∧zd T 233 3:=by refine⟨⟨?_,?_,?_⟩,zm T (F:=f233) ?_ ?_⟩<;>kernel_rfl
@[go_sem]theorem xeq:x9 T 247 true none false:=⟨by kernel_rfl,by kernel_rfl,by kernel_rfl⟩
@[go_sem]theorem yvw:zb8 T 247:=zdo T (F:=f247) (by kernel_rfl) (by kernel_rfl)
def zwz:=nv 2 f229
def zwy:=nv 3 f229
theorem xfw:qq T 229 11 (.seq (zwz) (zwy)):=zh T (F:=f229) (by kernel_rfl) (by kernel_rfl) (by kernel_rfl)
@[go_sem↓]theorem run229:RR zwz [oo 3 (oM 0),oo 4 (oN 3 28),oo 2 (oG 4)]∧RR zwy [oo 5 (oM 0),oo 6 (oM 2),oo 7 (oM 2),oo 8 (.convert 3 308 (.tmp 7)),oo 9 (o1 233 8 308),oo 10 (.call ⟨.value (.func 247),#[.tmp 5,.const (.int .i64 0),.tmp 6,.tmp 9],#[28,3,3,3]⟩)]∧zu T 229 [] true:=by refine⟨zz T ?_,zz T ?_,zf T (F:=f229) ?_ ?_ ?_⟩<;>kernel_rfl
def zwx:=nv 2 f230
def zww:=nv 12 f230
def zwv:=nv 52 f230
def zwu:=nv 28 f230
def zjz:=nv 116 f230
def zwt:=nv 464 f230
def zwr:=nv 1864 f230
def zwq:=nv 3730 f230
def zwp:=nv 7462 f230
def zwo:=nv 29852 f230
def zws:=nv 467 f230
def zl5:=nv 30 f230
theorem xfu:qq T 230 68 (.seq (zwx) (.seq (.seq (zww) (.cond (.tmp 13) (.seq (zwv) (.ret)) (.skip))) (.seq (.seq (zwu) (.block 0 (.loop zjz))) (.seq (zl5) (.ret))))):=zh T (F:=f230) (by kernel_rfl) (by kernel_rfl) (by kernel_rfl)
@[go_sem↓]theorem run230:RR zwx [oo 2 (.assign (.const (.bool false)))]∧RR zww [oo 6 (oM 0),oo 7 (oN 6 9),oo 8 (oC .eql 3 7 0),oo 9 (oM 8),of 10 (oM 0) 9,of 11 (oN 10 9) 9,of 12 (oC .gtr 3 11 24) 9,oo 13 (.pick (.tmp 9) (.const (.bool true)) (.tmp 12))]∧RR zwv [oo 2 (.assign (.const (.bool false)))]∧RR zwu [oo 3 (oi 0)]∧RR zwt [oo 14 (oM 3),oo 15 (oM 0),oo 16 (oN 15 9),oo 17 (oB .lss 3 14 16)]∧RR zwr [oo 20 (oM 0),oo 21 (oM 3),oo 22 (.index 9 (.tmp 20) (.tmp 21)),oo 23 (.binOp .geq 5 (.tmp 22) (.const (.int .u8 65)) 5),oo 24 (oM 23),ot 25 (oM 0) 24,ot 26 (oM 3) 24,ot 27 (.index 9 (.tmp 25) (.tmp 26)) 24,ot 28 (.binOp .leq 5 (.tmp 27) (.const (.int .u8 90)) 5) 24,oo 29 (.pick (.tmp 24) (.tmp 28) (.const (.bool false))),oo 30 (oM 29),of 31 (oM 0) 30,of 32 (oM 3) 30,of 33 (.index 9 (.tmp 31) (.tmp 32)) 30,of 34 (.binOp .geq 5 (.tmp 33) (.const (.int .u8 97)) 5) 30,of 35 (oM 34) 30,ot 36 (oM 0) 35,ot 37 (oM 3) 35,ot 38 (.index 9 (.tmp 36) (.tmp 37)) 35,ot 39 (.binOp .leq 5 (.tmp 38) (.const (.int .u8 122)) 5) 35,of 40 (.pick (.tmp 35) (.tmp 39) (.const (.bool false))) 30,oo 41 (.pick (.tmp 30) (.const (.bool true)) (.tmp 40)),oo 4 (oG 41)]∧RR zwq [oo 42 (oM 0),oo 43 (oM 3),oo 44 (.index 9 (.tmp 42) (.tmp 43)),oo 45 (.binOp .geq 5 (.tmp 44) (.const (.int .u8 48)) 5),oo 46 (oM 45),ot 47 (oM 0) 46,ot 48 (oM 3) 46,ot 49 (.index 9 (.tmp 47) (.tmp 48)) 46,ot 50 (.binOp .leq 5 (.tmp 49) (.const (.int .u8 57)) 5) 46,oo 51 (.pick (.tmp 46) (.tmp 50) (.const (.bool false))),oo 52 (oM 51),of 53 (oM 0) 52,of 54 (oM 3) 52,of 55 (.index 9 (.tmp 53) (.tmp 54)) 52,of 56 (.binOp .eql 5 (.tmp 55) (.const (.int .u8 95)) 5) 52,oo 57 (.pick (.tmp 52) (.const (.bool true)) (.tmp 56)),oo 5 (oG 57)]∧RR zwp [oo 58 (oM 4),oo 59 (.unOp .not 4 (.tmp 58)),oo 60 (oM 59),ot 61 (oM 3) 60,ot 62 (oC .eql 3 61 0) 60,ot 63 (oM 62) 60,of 64 (oM 5) 63,of 65 (.unOp .not 4 (.tmp 64)) 63,ot 66 (.pick (.tmp 63) (.const (.bool true)) (.tmp 65)) 60,oo 67 (.pick (.tmp 60) (.tmp 66) (.const (.bool false)))]∧RR zwo [oo 2 (.assign (.const (.bool false)))]∧RR zws [oo 18 (oM 3),oo 19 (oC .add 3 18 1),oo 3 (oG 19)]∧RI zjz (.seq (.seq (zwt) (.cond (.tmp 17) (.skip) (.exit 0))) (.seq (.block 1 (.seq (zwr) (.seq (zwq) (.seq (zwp) (.cond (.tmp 67) (.seq (zwo) (.ret)) (.skip)))))) (zws)))∧z7 T 230 zjz [0,3]∧RR zl5 [oo 2 (.assign (.const (.bool true)))]∧zu T 230 [.tmp 2] false:=by refine⟨zz T ?_,zz T ?_,zz T ?_,zz T ?_,zz T ?_,zz T ?_,zz T ?_,zz T ?_,zz T ?_,zz T ?_,zl T ?_,z8 T ?_,zz T ?_,zf T (F:=f230) ?_ ?_ ?_⟩<;>kernel_rfl
@[go_sem]theorem xep:x9 T 269 true none false:=⟨by kernel_rfl,by kernel_rfl,by kernel_rfl⟩
@[go_sem]theorem yvv:zb8 T 269:=zdo T (F:=f269) (by kernel_rfl) (by kernel_rfl)
@[go_sem]theorem fr275:x9 T 275 false none false∧zd T 275 4:=by refine⟨⟨?_,?_,?_⟩,zm T (F:=f275) ?_ ?_⟩<;>kernel_rfl
def zv0:=nv 2 f247
def zvz:=nv 6 f247
def zpm:=nv 28 f247
def zvo:=nv 112 f247
def zvd:=nv 452 f247
def zvb:=nv 1812 f247
def zva:=nv 908 f247
def zu9:=nv 3636 f247
def zu8:=nv 1820 f247
def zu7:=nv 7284 f247
def zu6:=nv 7285 f247
def zvy:=nv 1822 f247
def zvx:=nv 7292 f247
def zvw:=nv 29172 f247
def zvv:=nv 58346 f247
def zvu:=nv 58347 f247
def zvt:=nv 14588 f247
def zvs:=nv 58356 f247
def zvr:=nv 29180 f247
def zvq:=nv 116724 f247
def zvp:=nv 233450 f247
def zvn:=nv 29182 f247
def zvm:=nv 58366 f247
def zvl:=nv 116734 f247
def zvk:=nv 233470 f247
def zvj:=nv 466942 f247
def zvi:=nv 1867772 f247
def zvh:=nv 3735546 f247
def zvg:=nv 3735547 f247
def zvf:=nv 1867774 f247
def zve:=nv 3735550 f247
def zvc:=nv 3735551 f247
theorem xfq:qq T 247 134 (.seq (zv0) (.seq (zvz) (.block 0 (.loop zpm)))):=zh T (F:=f247) (by kernel_rfl) (by kernel_rfl) (by kernel_rfl)
@[go_sem↓]theorem run247:RR zv0 [oo 8 (.assign (.const (.bool true)))]∧RR zvz [oo 9 (.assign (.const (.bool true)))]∧RR zvo [oo 19 (oM 2),oo 20 (oM 1),oo 21 (oB .sub 3 19 20),oo 10 (oG 21)]∧RR zvd [oo 22 (oM 10),oo 23 (oC .leq 3 22 12)]∧RR zvb [oo 24 (oM 0),oo 25 (oM 1),oo 26 (oM 2),oo 27 (.call ⟨.value (.func 269),#[.tmp 24,.tmp 25,.tmp 26],#[28,3,3]⟩)]∧RR zva [oo 28 (oM 3),oo 29 (oC .eql 3 28 0)]∧RR zu9 [oo 30 (oM 0),oo 31 (oM 1),oo 32 (oM 2),oo 33 (.call ⟨.value (.func 270),#[.tmp 30,.tmp 31,.tmp 32],#[28,3,3]⟩)]∧RR zu8 [oo 34 (oM 8),oo 35 (.unOp .not 4 (.tmp 34))]∧RR zu7 [oo 36 (oM 0),oo 37 (oM 1),oo 38 (oM 2),oo 39 (.call ⟨.value (.func 271),#[.tmp 36,.tmp 37,.tmp 38],#[28,3,3]⟩)]∧RR zu6 [oo 40 (oM 3),oo 41 (oC .sub 3 40 1),oo 3 (oG 41)]∧RR zvy [oo 43 (oM 0),oo 44 (oM 1),oo 45 (oM 2),oo 46 (.call ⟨.value (.func 272),#[.tmp 43,.tmp 44,.tmp 45],#[28,3,3]⟩),oo 42 (oM 46),oo 47 (oX 42 0),oo 48 (oX 42 1),oo 11 (oG 47),oo 12 (oG 48)]∧RR zvx [oo 49 (oM 12),oo 50 (oC .eql 320 49 2)]∧RR zvw [oo 51 (oM 0),oo 52 (oM 1),oo 53 (oM 2),oo 54 (.call ⟨.value (.func 273),#[.tmp 51,.tmp 52,.tmp 53],#[28,3,3]⟩)]∧RR zvv [oo 55 (oM 2),oo 56 (oC .sub 3 55 1),oo 57 (oM 11),oo 58 (oM 1),oo 59 (oB .sub 3 57 58),oo 60 (oB .sub 3 56 59),oo 11 (oG 60)]∧RR zvu [oo 12 (oi 1)]∧RR zvt [oo 61 (oM 8),oo 62 (oM 61),ot 63 (oM 9) 62,oo 64 (.pick (.tmp 62) (.tmp 63) (.const (.bool false))),oo 65 (oM 64),ot 66 (oM 12) 65,ot 67 (oC .eql 320 66 1) 65,oo 68 (.pick (.tmp 65) (.tmp 67) (.const (.bool false)))]∧RR zvs [oo 69 (oM 0),oo 70 (oM 1),oo 71 (oM 2),oo 72 (.call ⟨.value (.func 274),#[.tmp 69,.tmp 70,.tmp 71],#[28,3,3]⟩)]∧RD zvr 247 [oo 73 (oM 1),oo 74 (oC .gtr 3 73 0),oo 75 (oM 74),ot 76 (oM 0) 75,ot 77 (oM 1) 75,ot 78 (oC .sub 3 77 1) 75,ot 79 (oI 28 76 78) 75,ot 80 (oL 3 79) 75,ot 81 (oM 0) 75,ot 82 (oM 11) 75,ot 83 (oI 28 81 82) 75,ot 84 (oL 3 83) 75,ot 85 (o2 275 80 84 3 3) 75,ot 86 (.unOp .not 4 (.tmp 85)) 75,oo 87 (.pick (.tmp 75) (.tmp 86) (.const (.bool false)))] [(3,4),(3,5),(3,8),(4,8),(5,8),(6,8),(7,8),(3,9),(4,9),(5,9),(6,9),(7,9),(8,9),(3,10),(4,10),(5,10),(6,10),(7,10),(3,11),(4,11),(5,11),(6,11),(7,11)]∧RR zvq [oo 88 (oM 0),oo 89 (oM 1),oo 90 (oM 2),oo 91 (oM 11),oo 92 (.call ⟨.value (.func 276),#[.tmp 88,.tmp 89,.tmp 90,.tmp 91],#[28,3,3,3]⟩),oo 13 (oG 92)]∧RR zvp [oo 93 (oM 13),oo 1 (oG 93)]∧RR zvn [oo 95 (oM 0),oo 96 (oM 1),oo 97 (oM 2),oo 98 (oM 11),oo 99 (.call ⟨.value (.func 277),#[.tmp 95,.tmp 96,.tmp 97,.tmp 98],#[28,3,3,3]⟩),oo 94 (oM 99),oo 100 (oX 94 0),oo 101 (oX 94 1),oo 14 (oG 100),oo 15 (oG 101)]∧RR zvm [oo 102 (oM 15),oo 9 (oG 102)]∧RR zvl [oo 103 (oM 14),oo 104 (oM 1),oo 105 (oB .sub 3 103 104),oo 106 (oM 2),oo 107 (oM 14),oo 108 (oB .sub 3 106 107),oo 16 (oG 105),oo 17 (oG 108)]∧RR zvk [oo 109 (oM 10),oo 110 (oC .quo 3 109 8),oo 18 (oG 110)]∧RR zvj [oo 111 (oM 16),oo 112 (oM 17),oo 113 (oB .lss 3 111 112)]∧RR zvi [oo 114 (oM 16),oo 115 (oM 18),oo 116 (oB .geq 3 114 115),oo 8 (oG 116)]∧RR zvh [oo 117 (oM 0),oo 118 (oM 1),oo 119 (oM 14),oo 120 (oM 3),oo 121 (.call ⟨.value (.func 247),#[.tmp 117,.tmp 118,.tmp 119,.tmp 120],#[28,3,3,3]⟩)]∧RR zvg [oo 122 (oM 14),oo 123 (oC .add 3 122 1),oo 1 (oG 123)]∧RR zvf [oo 124 (oM 17),oo 125 (oM 18),oo 126 (oB .geq 3 124 125),oo 8 (oG 126)]∧RR zve [oo 127 (oM 0),oo 128 (oM 14),oo 129 (oC .add 3 128 1),oo 130 (oM 2),oo 131 (oM 3),oo 132 (.call ⟨.value (.func 247),#[.tmp 127,.tmp 129,.tmp 130,.tmp 131],#[28,3,3,3]⟩)]∧RR zvc [oo 133 (oM 14),oo 2 (oG 133)]∧RI zpm (.block 1 (.seq (zvo) (.seq (.seq (zvd) (.cond (.tmp 23) (.seq (zvb) (.ret)) (.skip))) (.seq (.seq (zva) (.cond (.tmp 29) (.seq (zu9) (.ret)) (.skip))) (.seq (.seq (zu8) (.cond (.tmp 35) (.seq (zu7) (zu6)) (.skip))) (.seq (zvy) (.seq (.seq (zvx) (.cond (.tmp 50) (.seq (zvw) (.seq (zvv) (zvu))) (.skip))) (.seq (.seq (zvt) (.cond (.tmp 68) (.seq (zvs) (.cond (.tmp 72) (.ret) (.skip))) (.skip))) (.seq (.seq (zvr) (.cond (.tmp 87) (.seq (zvq) (.seq (zvp) (.exit 1))) (.skip))) (.seq (zvn) (.seq (zvm) (.seq (zvl) (.seq (zvk) (.seq (zvj) (.cond (.tmp 113) (.seq (zvi) (.seq (zvh) (zvg))) (.seq (zvf) (.seq (zve) (zvc))))))))))))))))))∧z7 T 247 zpm [0,1,2,3,8,9]∧zu T 247 [] true:=by refine⟨zz T ?_,zz T ?_,zz T ?_,zz T ?_,zz T ?_,zz T ?_,zz T ?_,zz T ?_,zz T ?_,zz T ?_,zz T ?_,zz T ?_,zz T ?_,zz T ?_,zz T ?_,zz T ?_,zz T ?_,xt T (id:=17) ?_ ?_,zz T ?_,zz T ?_,zz T ?_,zz T ?_,zz T ?_,zz T ?_,zz T ?_,zz T ?_,zz T ?_,zz T ?_,zz T ?_,zz T ?_,zz T ?_,zl T ?_,z8 T ?_,zf T (F:=f247) ?_ ?_ ?_⟩<;>kernel_rfl
def zu5:=nv 2 f269
def zgh:=nv 12 f269
def zu4:=nv 48 f269
def zu3:=nv 200 f269
def zjw:=nv 804 f269
def zu2:=nv 3216 f269
def zu0:=nv 6436 f269
def zu1:=nv 3219 f269
def zl3:=nv 51 f269
theorem xfp:qq T 269 49 (.seq (zu5) (.block 0 (.loop zgh))):=zh T (F:=f269) (by kernel_rfl) (by kernel_rfl) (by kernel_rfl)
@[go_sem↓]theorem run269:RR zu5 [oo 8 (oM 1),oo 9 (oC .add 3 8 1),oo 6 (oG 9)]∧RR zu4 [oo 10 (oM 6),oo 11 (oM 2),oo 12 (oB .lss 3 10 11)]∧RR zu3 [oo 15 (oM 6),oo 7 (oG 15)]∧RD zu2 269 [oo 16 (oM 7),oo 17 (oM 1),oo 18 (oB .gtr 3 16 17),oo 19 (oM 18),ot 20 (oM 0) 19,ot 21 (oM 7) 19,ot 22 (oI 28 20 21) 19,ot 23 (oL 3 22) 19,ot 24 (oM 0) 19,ot 25 (oM 7) 19,ot 26 (oC .sub 3 25 1) 19,ot 27 (oI 28 24 26) 19,ot 28 (oL 3 27) 19,ot 29 (o2 275 23 28 3 3) 19,oo 30 (.pick (.tmp 19) (.tmp 29) (.const (.bool false)))] [(0,1),(4,5),(4,8),(5,8),(6,8),(7,8),(4,9),(5,9),(6,9),(7,9),(8,9),(4,10),(5,10),(6,10),(7,10),(8,10),(4,11),(5,11),(6,11),(7,11),(4,12),(5,12),(6,12),(7,12)]∧RD zu0 269 [oo 33 (oM 0),oo 34 (oM 7),oo 35 (oM 0),oo 36 (oM 7),oo 37 (oC .sub 3 36 1),oo 38 (oM 0),oo 39 (oM 7),oo 40 (oC .sub 3 39 1),oo 41 (oI 28 38 40),oo 42 (oL 3 41),oo 43 (oM 0),oo 44 (oM 7),oo 45 (oI 28 43 44),oo 46 (oL 3 45),oo 47 (oI 28 33 34),ow 3 47 42,oo 48 (oI 28 35 37),ow 3 48 46] [(0,1),(0,2),(1,2),(0,3),(1,3),(2,3),(0,4),(1,4),(2,4),(0,5),(1,5),(2,5),(3,5),(4,5),(0,6),(1,6),(2,6),(3,6),(4,6),(5,6),(0,7),(1,7),(2,7),(3,7),(4,7),(5,7),(0,8),(1,8),(2,8),(3,8),(4,8),(0,9),(1,9),(2,9),(3,9),(4,9),(0,10),(1,10),(2,10),(3,10),(4,10),(5,10),(6,10),(7,10),(8,10),(9,10),(0,11),(1,11),(2,11),(3,11),(4,11),(5,11),(6,11),(7,11),(8,11),(9,11),(10,11),(0,12),(1,12),(2,12),(3,12),(4,12),(5,12),(6,12),(7,12),(8,12),(9,12),(0,13),(1,13),(2,13),(3,13),(4,13),(5,13),(6,13),(7,13),(8,13),(9,13),(2,14),(3,14),(4,14),(2,15),(3,15),(4,15)]∧RR zu1 [oo 31 (oM 7),oo 32 (oC .sub 3 31 1),oo 7 (oG 32)]∧RI zjw (.seq (.seq (zu2) (.cond (.tmp 30) (.skip) (.exit 2))) (.seq (.block 3 (zu0)) (zu1)))∧z7 T 269 zjw [0,1,2,6,7]∧RR zl3 [oo 13 (oM 6),oo 14 (oC .add 3 13 1),oo 6 (oG 14)]∧RI zgh (.seq (.seq (zu4) (.cond (.tmp 12) (.skip) (.exit 0))) (.seq (.block 1 (.seq (zu3) (.block 2 (.loop zjw)))) (zl3)))∧z7 T 269 zgh [0,1,2,6]∧zu T 269 [] true:=by refine⟨zz T ?_,zz T ?_,zz T ?_,xt T (id:=4) ?_ ?_,xt T (id:=6) ?_ ?_,zz T ?_,zl T ?_,z8 T ?_,zz T ?_,zl T ?_,z8 T ?_,zf T (F:=f269) ?_ ?_ ?_⟩<;>kernel_rfl
@[go_sem]theorem fr234:x9 T 234 false none false∧zd T 234 4:=by refine⟨⟨?_,?_,?_⟩,zm T (F:=f234) ?_ ?_⟩<;>kernel_rfl
def zuz:=nv 2 f275
def zuy:=nv 6 f275
theorem xfo:qq T 275 17 (.seq (zuz) (.seq (zuy) (.ret))):=zh T (F:=f275) (by kernel_rfl) (by kernel_rfl) (by kernel_rfl)
@[go_sem↓]theorem run275:RR zuz [oo 4 (.assign (.const (.bool false)))]∧RR zuy [oo 5 (oM 0),oo 6 (o1 234 5 3),oo 7 (oM 6),ot 8 (oM 1) 7,ot 9 (o1 234 8 3) 7,ot 10 (.unOp .not 4 (.tmp 9)) 7,oo 11 (.pick (.tmp 7) (.tmp 10) (.const (.bool false))),oo 12 (oM 11),of 13 (oM 0) 12,of 14 (oM 1) 12,of 15 (oB .lss 3 13 14) 12,oo 16 (.pick (.tmp 12) (.const (.bool true)) (.tmp 15)),oo 4 (oG 16)]∧zu T 275 [.tmp 4] false:=by refine⟨zz T ?_,zz T ?_,zf T (F:=f275) ?_ ?_ ?_⟩<;>kernel_rfl
def zwg:=nv 2 f234
def zwf:=nv 6 f234
theorem xfs:qq T 234 6 (.seq (zwg) (.seq (zwf) (.ret))):=zh T (F:=f234) (by kernel_rfl) (by kernel_rfl) (by kernel_rfl)
@[go_sem↓]theorem run234:RR zwg [oo 2 (.assign (.const (.bool false)))]∧RR zwf [oo 3 (oM 0),oo 4 (oM 0),oo 5 (oB .neq 3 3 4),oo 2 (oG 5)]∧zu T 234 [.tmp 2] false:=by refine⟨zz T ?_,zz T ?_,zf T (F:=f234) ?_ ?_ ?_⟩<;>kernel_rfl
@[go_sem]theorem fr27:x9 T 27 false none false∧zd T 27 28:=by refine⟨⟨?_,?_,?_⟩,zm T (F:=f27) ?_ ?_⟩<;>kernel_rfl
@[go_sem]theorem fr29:x9 T 29 false none false∧yx T 29 4 29 []:=by refine⟨⟨?_,?_,?_⟩,wa T (F:=f29) ?_ ?_⟩<;>kernel_rfl
@[go_sem]theorem fr122:x9 T 122 false none false∧zd T 122 29:=by refine⟨⟨?_,?_,?_⟩,zm T (F:=f122) ?_ ?_⟩<;>kernel_rfl
@[go_sem]theorem fr123:x9 T 123 false none false∧zd T 123 44:=by refine⟨⟨?_,?_,?_⟩,zm T (F:=f123) ?_ ?_⟩<;>kernel_rfl
def zux:=nv 2 f27
def zuw:=nv 6 f27
theorem yn9:qq T 27 6 (.seq (zux) (.seq (zuw) (.ret))):=zh T (F:=f27) (by kernel_rfl) (by kernel_rfl) (by kernel_rfl)
@[go_sem↓]theorem run27:RR zux [oo 2 on]∧RR zuw [oo 3 (.buildSlice 28 0 #[]),oo 4 (oM 0),oo 5 (oA 3 4 28),oo 2 (oG 5)]∧zu T 27 [.tmp 2] false:=by refine⟨zz T ?_,zz T ?_,zf T (F:=f27) ?_ ?_ ?_⟩<;>kernel_rfl
@[go_sem]theorem fr124:x9 T 124 false none false∧zd T 124 48:=by refine⟨⟨?_,?_,?_⟩,zm T (F:=f124) ?_ ?_⟩<;>kernel_rfl
@[go_sem]theorem fr125:x9 T 125 false none false∧zd T 125 199:=by refine⟨⟨?_,?_,?_⟩,zm T (F:=f125) ?_ ?_⟩<;>kernel_rfl
@[go_sem]theorem fr126:x9 T 126 false none false∧zd T 126 4:=by refine⟨⟨?_,?_,?_⟩,zm T (F:=f126) ?_ ?_⟩<;>kernel_rfl
def zuv:=nv 2 f29
def zuu:=nv 12 f29
def zut:=nv 26 f29
def zus:=nv 108 f29
def zur:=nv 14 f29
theorem xfn:qq T 29 16 (.seq (zuv) (.seq (.seq (zuu) (.seq (zut) (.cond (.tmp 11) (.seq (zus) (.ret)) (.skip)))) (.seq (zur) (.ret)))):=zh T (F:=f29) (by kernel_rfl) (by kernel_rfl) (by kernel_rfl)
@[go_sem↓]theorem run29:RR zuv [oo 2 (.box 34 (.tmp 0)),oo 4 (.assign (.const (.bool false))),oo 5 (oi 0)]∧RR zuu [oo 7 (oL 34 2),oo 8 (oM 1),oo 9 (o2 122 7 8 34 28),oo 6 (oG 9)]∧RR zut [oo 10 (oM 6),oo 11 (oC .neq 29 10 0)]∧RR zus [oo 12 (oM 6),oo 4 (.assign (.const (.bool false))),oo 5 (oG 12)]∧RR zur [oo 13 (oL 34 2),oo 14 (oM 1),oo 15 (o2 126 13 14 34 28),oo 4 (oG 15),oo 5 (oi 0)]∧zu T 29 [.tmp 4,.tmp 5] false:=by refine⟨zz T ?_,zz T ?_,zz T ?_,zz T ?_,zz T ?_,zf T (F:=f29) ?_ ?_ ?_⟩<;>kernel_rfl
@[go_sem]theorem fr127:x9 T 127 false none false∧zd T 127 4:=by refine⟨⟨?_,?_,?_⟩,zm T (F:=f127) ?_ ?_⟩<;>kernel_rfl
@[go_sem]theorem fr192:x9 T 192 false none false∧zd T 192 29:=by refine⟨⟨?_,?_,?_⟩,zm T (F:=f192) ?_ ?_⟩<;>kernel_rfl
@[go_sem]theorem fr193:x9 T 193 false none false∧zd T 193 29:=by refine⟨⟨?_,?_,?_⟩,zm T (F:=f193) ?_ ?_⟩<;>kernel_rfl
def yik:=nv 2 f122
def yij:=nv 12 f122
def yii:=nv 26 f122
def yih:=nv 108 f122
def yig:=nv 14 f122
def yif:=nv 30 f122
theorem xhf:qq T 122 21 (.seq (yik) (.seq (.seq (yij) (.seq (yii) (.cond (.tmp 10) (.seq (yih) (.ret)) (.skip)))) (.seq (yig) (.seq (yif) (.ret))))):=zh T (F:=f122) (by kernel_rfl) (by kernel_rfl) (by kernel_rfl)
@[go_sem↓]theorem run122:RR yik [oo 2 (.box 34 (.tmp 0)),oo 4 (oi 0)]∧RR yij [oo 7 (oL 34 2),oo 8 (o1 23 7 34),oo 5 (oG 8)]∧RR yii [oo 9 (oM 5),oo 10 (oC .neq 29 9 0)]∧RR yih [oo 11 (oM 5),oo 4 (oG 11)]∧RR yig [oo 12 (.makeFunc (.func 192) #[] #[.tmp 2]),oo 6 (oG 12)]∧RR yif [oo 13 (oM 1),oo 14 (oM 6),oo 15 (o2 116 13 14 28 189),oo 16 (o1 114 15 187),oo 17 (oM 1),oo 18 (o1 193 17 28),oo 19 (.buildSlice 187 2 #[(0,.tmp 16),(1,.tmp 18)]),oo 20 (o1 114 19 187),oo 4 (oG 20)]∧zu T 122 [.tmp 4] false:=by refine⟨zz T ?_,zz T ?_,zz T ?_,zz T ?_,zz T ?_,zz T ?_,zf T (F:=f122) ?_ ?_ ?_⟩<;>kernel_rfl
@[go_sem]theorem fr194:x9 T 194 true none true∧zd T 194 44:=by refine⟨⟨?_,?_,?_⟩,zm T (F:=f194) ?_ ?_⟩<;>kernel_rfl
@[go_sem]theorem fr195:x9 T 195 true none false∧zd T 195 72:=by refine⟨⟨?_,?_,?_⟩,zm T (F:=f195) ?_ ?_⟩<;>kernel_rfl
def yie:=nv 2 f123
def yid:=nv 6 f123
def yia:=nv 28 f123
def zgo:=nv 116 f123
def yh9:=nv 232 f123
def yh8:=nv 3736 f123
def yh7:=nv 7474 f123
def yh6:=nv 14950 f123
def zko:=nv 59804 f123
def yh5:=nv 119608 f123
def yh4:=nv 1913752 f123
def yh3:=nv 3827506 f123
def yic:=nv 3827507 f123
def yib:=nv 478439 f123
def zmz:=nv 935 f123
def zh3:=nv 30 f123
theorem xhe:qq T 123 64 (.seq (yie) (.seq (yid) (.seq (.seq (yia) (.block 0 (.loop zgo))) (.seq (zh3) (.ret))))):=zh T (F:=f123) (by kernel_rfl) (by kernel_rfl) (by kernel_rfl)
@[go_sem↓]theorem run123:RR yie [oo 2 (.box 34 (.tmp 0)),oo 4 on]∧RR yid [oo 11 (oF 34 2 0),oo 12 (oL 22 11),oo 13 (.call ⟨.value (.func 194),#[.tmp 12,.func 195],#[22,279]⟩),oo 5 (oG 13)]∧RR yia [oo 14 (oM 1),oo 15 (oN 14 28),oo 16 (.move (.const (.int .i64 0)))]∧RR yh9 [oo 17 (oB .lss 3 16 15)]∧RR yh8 [oo 18 (oI 28 14 16),oo 19 (oL 3 18),oo 7 (oG 19)]∧RR yh7 [oo 20 (oF 34 2 2),oo 21 (oL 32 20),oo 22 (oM 7),oo 23 (oI 32 21 22),oo 24 (oL 180 23),oo 8 (.alloc 180),ow 180 8 24]∧RR yh6 [oo 25 (oF 180 8 2),oo 26 (oL 72 25),oo 27 (oN 26 72),oo 28 (.move (.const (.int .i64 0)))]∧RR yh5 [oo 29 (oB .lss 3 28 27)]∧RR yh4 [oo 30 (oM 28),oo 31 (oI 72 26 28),oo 32 (oL 142 31),oo 10 (.alloc 142),oo 9 (oG 30),ow 142 10 32]∧RD yh3 123 [oo 33 (oM 5),oo 34 (oF 180 8 1),oo 35 (oL 3 34),oo 36 (oI 44 33 35),oo 37 (oL 72 36),oo 38 (oM 9),oo 39 (oI 72 37 38),oo 40 (oF 142 39 0),oo 41 (oL 3 40),oo 42 (oF 142 10 0),oo 43 (oL 3 42),oo 44 (oB .add 3 41 43),oo 45 (oI 72 37 38),oo 46 (oF 142 45 0),ow 3 46 44] [(0,1),(0,2),(0,5),(1,5),(2,5),(3,5),(4,5),(0,9),(1,9),(2,9),(3,9),(4,9),(5,9),(6,9),(7,9),(8,9),(0,10),(1,10),(2,10),(3,10),(4,10),(5,10),(6,10),(7,10),(8,10)]∧RD yic 123 [oo 47 (oM 5),oo 48 (oF 180 8 1),oo 49 (oL 3 48),oo 50 (oI 44 47 49),oo 51 (oL 72 50),oo 52 (oM 9),oo 53 (oI 72 51 52),oo 54 (oF 142 53 1),oo 55 (oL 3 54),oo 56 (oF 142 10 1),oo 57 (oL 3 56),oo 58 (oB .add 3 55 57),oo 59 (oI 72 51 52),oo 60 (oF 142 59 1),ow 3 60 58] [(0,1),(0,2),(0,5),(1,5),(2,5),(3,5),(4,5),(0,9),(1,9),(2,9),(3,9),(4,9),(5,9),(6,9),(7,9),(8,9),(0,10),(1,10),(2,10),(3,10),(4,10),(5,10),(6,10),(7,10),(8,10)]∧RR yib [oo 61 (oC .add 3 28 1),oo 28 (oM 61)]∧RI zko (.seq (yh5) (.seq (.cond (.tmp 29) (.skip) (.exit 2)) (.seq (.block 3 (.seq (yh4) (.seq (yh3) (yic)))) (yib))))∧z7 T 123 zko [2,5,8,14,15,16,26,27,28]∧RR zmz [oo 62 (oC .add 3 16 1),oo 16 (oM 62)]∧RI zgo (.seq (yh9) (.seq (.cond (.tmp 17) (.skip) (.exit 0)) (.seq (.block 1 (.seq (yh8) (.seq (yh7) (.seq (yh6) (.block 2 (.loop zko)))))) (zmz))))∧z7 T 123 zgo [2,5,14,15,16]∧RR zh3 [oo 63 (oM 5),oo 4 (oG 63)]∧zu T 123 [.tmp 4] false:=by refine⟨zz T ?_,zz T ?_,zz T ?_,zz T ?_,zz T ?_,zz T ?_,zz T ?_,zz T ?_,zz T ?_,xt T (id:=9) ?_ ?_,xt T (id:=10) ?_ ?_,zz T ?_,zl T ?_,z8 T ?_,zz T ?_,zl T ?_,z8 T ?_,zz T ?_,zf T (F:=f123) ?_ ?_ ?_⟩<;>kernel_rfl
@[go_sem]theorem fr196:x9 T 196 false none false∧zd T 196 48:=by refine⟨⟨?_,?_,?_⟩,zm T (F:=f196) ?_ ?_⟩<;>kernel_rfl
def yh2:=nv 2 f124
def yh1:=nv 6 f124
theorem xhd:qq T 124 5 (.seq (yh2) (.seq (yh1) (.ret))):=zh T (F:=f124) (by kernel_rfl) (by kernel_rfl) (by kernel_rfl)
@[go_sem↓]theorem run124:RR yh2 [oo 2 on]∧RR yh1 [oo 3 (oM 0),oo 4 (.call ⟨.value (.func 196),#[.const (.slice none 0 0),.tmp 3],#[48,199]⟩),oo 2 (oG 4)]∧zu T 124 [.tmp 2] false:=by refine⟨zz T ?_,zz T ?_,zf T (F:=f124) ?_ ?_ ?_⟩<;>kernel_rfl
@[go_sem]theorem zal:x9 T 197 false none false:=⟨by kernel_rfl,by kernel_rfl,by kernel_rfl⟩
@[go_sem]theorem ze1:zb8 T 197:=zdo T (F:=f197) (by kernel_rfl) (by kernel_rfl)
def yh0:=nv 2 f125
def yhz:=nv 6 f125
def yhy:=nv 14 f125
theorem xhc:qq T 125 13 (.seq (yh0) (.seq (yhz) (.seq (yhy) (.ret)))):=zh T (F:=f125) (by kernel_rfl) (by kernel_rfl) (by kernel_rfl)
@[go_sem↓]theorem run125:RR yh0 [oo 2 (.box 34 (.tmp 0)),oo 4 (.assign (.const (.nilFunc)))]∧RD yhz 125 [oo 7 (oL 34 2),oo 8 (o1 107 7 34),oo 9 (oL 34 2),oo 10 (oM 1),oo 11 (o2 123 9 10 34 28),oo 5 (.alloc 22),oo 6 (.alloc 44),ow 22 5 8,ow 44 6 11] [(0,2),(1,2),(0,3),(1,3),(2,3),(0,5),(1,5),(2,5),(3,5),(4,5),(0,6),(1,6),(2,6),(3,6),(4,6),(5,6)]∧RR yhy [oo 12 (.makeFunc (.func 197) #[] #[.tmp 5,.tmp 6,.tmp 2]),oo 4 (oG 12)]∧zu T 125 [.tmp 4] false:=by refine⟨zz T ?_,xt T (id:=1) ?_ ?_,zz T ?_,zf T (F:=f125) ?_ ?_ ?_⟩<;>kernel_rfl
def yhx:=nv 2 f126
def yhw:=nv 12 f126
def y6:=nv 52 f126
def ye:=nv 53 f126
def yhv:=nv 212 f126
def yhu:=nv 14 f126
theorem xhb:qq T 126 9 (.seq (yhx) (.seq (.seq (yhw) (.block 0 (.rangeFunc (.tmp 7) #[8] y6 ye))) (.seq (yhu) (.ret)))):=zh T (F:=f126) (by kernel_rfl) (by kernel_rfl) (by kernel_rfl)
@[go_sem↓]theorem run126:RR yhx [oo 2 (.box 34 (.tmp 0)),oo 4 (.alloc 4)]∧RR yhw [oo 5 (oL 34 2),oo 6 (oM 1),oo 7 (o2 125 5 6 34 28)]∧RR yhv [⟨none,.store 4 (.tmp 4) (.const (.bool false)),none⟩]∧RI y6 (.skip)∧RI ye (.block 1 (.seq (yhv) (.ret)))∧RR yhu [⟨none,.store 4 (.tmp 4) (.const (.bool true)),none⟩]∧zu T 126 [.cell 4 4] false:=by refine⟨zz T ?_,zz T ?_,zz T ?_,zl T ?_,zl T ?_,zz T ?_,zf T (F:=f126) ?_ ?_ ?_⟩<;>kernel_rfl
def yht:=nv 2 f127
def yhs:=nv 12 f127
def yhr:=nv 52 f127
def yhq:=nv 28 f127
def zkn:=nv 116 f127
def yhp:=nv 464 f127
def yhn:=nv 1864 f127
def yhm:=nv 7460 f127
def yho:=nv 467 f127
def zmy:=nv 30 f127
theorem xha:qq T 127 26 (.seq (yht) (.seq (.seq (yhs) (.cond (.tmp 10) (.seq (yhr) (.ret)) (.skip))) (.seq (.seq (yhq) (.block 0 (.loop zkn))) (.seq (zmy) (.ret))))):=zh T (F:=f127) (by kernel_rfl) (by kernel_rfl) (by kernel_rfl)
@[go_sem↓]theorem run127:RR yht [oo 4 (.assign (.const (.bool false)))]∧RR yhs [oo 6 (oM 0),oo 7 (oN 6 72),oo 8 (oM 1),oo 9 (oN 8 72),oo 10 (oB .neq 3 7 9)]∧RR yhr [oo 4 (.assign (.const (.bool false)))]∧RR yhq [oo 5 (oi 0)]∧RR yhp [oo 11 (oM 5),oo 12 (oM 0),oo 13 (oN 12 72),oo 14 (oB .lss 3 11 13)]∧RD yhn 127 [oo 17 (oM 0),oo 18 (oM 5),oo 19 (oI 72 17 18),oo 20 (oL 142 19),oo 21 (oM 1),oo 22 (oM 5),oo 23 (oI 72 21 22),oo 24 (oL 142 23),oo 25 (oB .neq 142 20 24)] [(0,1),(0,4),(1,4),(2,4),(3,4),(0,5),(1,5),(2,5),(3,5),(4,5),(0,6),(1,6),(2,6),(3,6),(0,7),(1,7),(2,7),(3,7)]∧RR yhm [oo 4 (.assign (.const (.bool false)))]∧RR yho [oo 15 (oM 5),oo 16 (oC .add 3 15 1),oo 5 (oG 16)]∧RI zkn (.seq (.seq (yhp) (.cond (.tmp 14) (.skip) (.exit 0))) (.seq (.block 1 (.seq (yhn) (.cond (.tmp 25) (.seq (yhm) (.ret)) (.skip)))) (yho)))∧z7 T 127 zkn [0,1,5]∧RR zmy [oo 4 (.assign (.const (.bool true)))]∧zu T 127 [.tmp 4] false:=by refine⟨zz T ?_,zz T ?_,zz T ?_,zz T ?_,zz T ?_,xt T (id:=6) ?_ ?_,zz T ?_,zz T ?_,zl T ?_,z8 T ?_,zz T ?_,zf T (F:=f127) ?_ ?_ ?_⟩<;>kernel_rfl
def ya4:=nv 2 f192
def ya3:=nv 6 f192
theorem xge:qq T 192 14 (.seq (ya4) (.seq (ya3) (.ret))):=zh T (F:=f192) (by kernel_rfl) (by kernel_rfl) (by kernel_rfl)
@[go_sem↓]theorem run192:RR ya4 [oo 3 (oi 0)]∧RR ya3 [oo 4 (oM 0),oo 5 (oC .lss 3 4 0),oo 6 (oM 5),of 7 (oM 0) 6,of 8 (oF 34 1 2) 6,of 9 (oL 32 8) 6,of 10 (oN 9 32) 6,of 11 (oB .geq 3 7 10) 6,oo 12 (.pick (.tmp 6) (.const (.bool true)) (.tmp 11)),oo 13 (.call ⟨.value (.func 115),#[.tmp 12,.const (.int .i64 10)],#[4,29]⟩),oo 3 (oG 13)]∧zu T 192 [.tmp 3] false:=by refine⟨zz T ?_,zz T ?_,zf T (F:=f192) ?_ ?_ ?_⟩<;>kernel_rfl
def ya2:=nv 2 f193
def ya1:=nv 12 f193
def zj6:=nv 52 f193
def ya0:=nv 208 f193
def yay:=nv 840 f193
def yax:=nv 3364 f193
def yaz:=nv 211 f193
def zme:=nv 14 f193
theorem xgd:qq T 193 20 (.seq (ya2) (.seq (.seq (ya1) (.block 0 (.loop zj6))) (.seq (zme) (.ret)))):=zh T (F:=f193) (by kernel_rfl) (by kernel_rfl) (by kernel_rfl)
@[go_sem↓]theorem run193:RR ya2 [oo 2 (oi 0)]∧RR ya1 [oo 3 (oi 1)]∧RR ya0 [oo 4 (oM 3),oo 5 (oM 0),oo 6 (oN 5 28),oo 7 (oB .lss 3 4 6)]∧RD yay 193 [oo 10 (oM 0),oo 11 (oM 3),oo 12 (oI 28 10 11),oo 13 (oL 3 12),oo 14 (oM 0),oo 15 (oM 3),oo 16 (oC .sub 3 15 1),oo 17 (oI 28 14 16),oo 18 (oL 3 17),oo 19 (oB .leq 3 13 18)] [(0,1),(0,4),(1,4),(2,4),(3,4),(0,5),(1,5),(2,5),(3,5),(4,5),(0,6),(1,6),(2,6),(3,6),(4,6),(0,7),(1,7),(2,7),(3,7),(0,8),(1,8),(2,8),(3,8)]∧RR yax [oo 2 (oi 11)]∧RR yaz [oo 8 (oM 3),oo 9 (oC .add 3 8 1),oo 3 (oG 9)]∧RI zj6 (.seq (.seq (ya0) (.cond (.tmp 7) (.skip) (.exit 0))) (.seq (.block 1 (.seq (yay) (.cond (.tmp 19) (.seq (yax) (.ret)) (.skip)))) (yaz)))∧z7 T 193 zj6 [0,3]∧RR zme [oo 2 (oi 0)]∧zu T 193 [.tmp 2] false:=by refine⟨zz T ?_,zz T ?_,zz T ?_,xt T (id:=4) ?_ ?_,zz T ?_,zz T ?_,zl T ?_,z8 T ?_,zz T ?_,zf T (F:=f193) ?_ ?_ ?_⟩<;>kernel_rfl
def yaw:=nv 2 f194
def yav:=nv 6 f194
def yau:=nv 28 f194
def zpo:=nv 116 f194
def yat:=nv 232 f194
def yas:=nv 3736 f194
def yar:=nv 3737 f194
def yaq:=nv 935 f194
def yap:=nv 30 f194
theorem zby:qq T 194 22 (.seq (yaw) (.seq (yav) (.seq (.seq (yau) (.block 0 (.loop zpo))) (.seq (yap) (.ret))))):=zh T (F:=f194) (by kernel_rfl) (by kernel_rfl) (by kernel_rfl)
@[go_sem↓]theorem run194:RR yaw [oo 4 on]∧RR yav [oo 5 on]∧RR yau [oo 8 (oM 0),oo 9 (oN 8 22),oo 10 (.move (.const (.int .i64 0)))]∧RR yat [oo 11 (oB .lss 3 10 9)]∧RR yas [oo 12 (oI 22 8 10),oo 13 (oL 28 12),oo 7 (oG 13)]∧RR yar [oo 14 (oM 5),oo 15 (oM 1),oo 16 (oM 7),oo 17 (.call ⟨.value (.tmp 15),#[.tmp 16],#[28]⟩),oo 18 (oS 44 17),oo 19 (oA 14 18 44),oo 5 (oG 19)]∧RR yaq [oo 20 (oC .add 3 10 1),oo 10 (oM 20)]∧RI zpo (.seq (yat) (.seq (.cond (.tmp 11) (.skip) (.exit 0)) (.seq (.block 1 (.seq (yas) (yar))) (yaq))))∧z7 T 194 zpo [1,5,8,9,10]∧RR yap [oo 21 (oM 5),oo 4 (oG 21)]∧zu T 194 [.tmp 4] true:=by refine⟨zz T ?_,zz T ?_,zz T ?_,zz T ?_,zz T ?_,zz T ?_,zz T ?_,zl T ?_,z8 T ?_,zz T ?_,zf T (F:=f194) ?_ ?_ ?_⟩<;>kernel_rfl
def yao:=nv 2 f195
def yan:=nv 6 f195
theorem xgc:qq T 195 6 (.seq (yao) (.seq (yan) (.ret))):=zh T (F:=f195) (by kernel_rfl) (by kernel_rfl) (by kernel_rfl)
@[go_sem↓]theorem run195:RR yao [oo 2 on]∧RR yan [oo 3 (oM 0),oo 4 (oN 3 28),oo 5 (.makeSlice 72 (.tmp 4) (.tmp 4)),oo 2 (oG 5)]∧zu T 195 [.tmp 2] true:=by refine⟨zz T ?_,zz T ?_,zf T (F:=f195) ?_ ?_ ?_⟩<;>kernel_rfl
def yam:=nv 2 f196
def yal:=nv 12 f196
def zc9:=nv 52 f196
def zc5:=nv 53 f196
def yak:=nv 52 f196
def yaj:=nv 106 f196
def yai:=nv 14 f196
theorem xgb:qq T 196 13 (.seq (yam) (.seq (.seq (yal) (.block 0 (.rangeFunc (.tmp 6) #[7] zc9 zc5))) (.seq (yai) (.ret)))):=zh T (F:=f196) (by kernel_rfl) (by kernel_rfl) (by kernel_rfl)
@[go_sem↓]theorem run196:RR yam [oo 2 (.box 48 (.tmp 0)),oo 4 on]∧RR yal [oo 6 (oM 1)]∧RR yak [oo 5 (.alloc 100),ow 100 5 7]∧RR yaj [oo 8 (oL 48 2),oo 9 (oL 100 5),oo 10 (oS 48 9),oo 11 (oA 8 10 48),ow 48 2 11]∧RI zc9 (yak)∧RI zc5 (.block 1 (yaj))∧RR yai [oo 12 (oL 48 2),oo 4 (oG 12)]∧zu T 196 [.tmp 4] false:=by refine⟨zz T ?_,zz T ?_,zz T ?_,zz T ?_,zl T ?_,zl T ?_,zz T ?_,zf T (F:=f196) ?_ ?_ ?_⟩<;>kernel_rfl
def yah:=nv 2 f197
def zgk:=nv 12 f197
def yag:=nv 24 f197
def yaf:=nv 408 f197
def yae:=nv 818 f197
def zj5:=nv 3276 f197
def yad:=nv 6552 f197
def yac:=nv 104856 f197
def yab:=nv 209714 f197
def yaa:=nv 419430 f197
def zz9:=nv 26215 f197
def zmd:=nv 103 f197
theorem xga:qq T 197 57 (.seq (yah) (.block 0 (.loop zgk))):=zh T (F:=f197) (by kernel_rfl) (by kernel_rfl) (by kernel_rfl)
@[go_sem↓]theorem run197:RR yah [oo 10 (oL 22 1),oo 11 (oN 10 22),oo 12 (.move (.const (.int .i64 0)))]∧RR yag [oo 13 (oB .lss 3 12 11)]∧RR yaf [oo 14 (oM 12),oo 15 (oI 22 10 12),oo 16 (oL 28 15),oo 5 (oG 14),oo 6 (oG 16)]∧RR yae [oo 17 (oM 6),oo 18 (oN 17 28),oo 19 (.move (.const (.int .i64 0)))]∧RR yad [oo 20 (oB .lss 3 19 18)]∧RR yac [oo 21 (oM 19),oo 22 (oI 28 17 19),oo 23 (oL 3 22),oo 7 (oG 21),oo 8 (oG 23)]∧RR yab [oo 24 (oL 44 2),oo 25 (oM 5),oo 26 (oI 44 24 25),oo 27 (oL 72 26),oo 28 (oM 7),oo 29 (oI 72 27 28),oo 30 (oL 142 29),oo 9 (.alloc 142),ow 142 9 30]∧RR yaa [oo 31 (oM 8),oo 32 (oF 142 9 0),oo 33 (oL 3 32),oo 34 (oF 34 3 1),oo 35 (oL 3 34),oo 36 (oB .sub 3 33 35),oo 37 (oB .lss 3 31 36),oo 38 (oM 37),of 39 (oM 8) 38,of 40 (oF 142 9 1) 38,of 41 (oL 3 40) 38,of 42 (oF 34 3 1) 38,of 43 (oL 3 42) 38,of 44 (oB .add 3 41 43) 38,of 45 (oB .gtr 3 39 44) 38,oo 46 (.pick (.tmp 38) (.const (.bool true)) (.tmp 45)),oo 47 (oM 46),ot 48 (oM 0) 47,ot 49 (oM 5) 47,ot 50 (oM 7) 47,ot 51 (.build 100 #[(0,.tmp 49),(1,.tmp 50)]) 47,ot 52 (.call ⟨.value (.tmp 48),#[.tmp 51],#[100]⟩) 47,ot 53 (.unOp .not 4 (.tmp 52)) 47,oo 54 (.pick (.tmp 47) (.tmp 53) (.const (.bool false)))]∧RR zz9 [oo 55 (oC .add 3 19 1),oo 19 (oM 55)]∧RI zj5 (.seq (yad) (.seq (.cond (.tmp 20) (.skip) (.exit 2)) (.seq (.block 3 (.seq (yac) (.seq (yab) (.seq (yaa) (.cond (.tmp 54) (.ret) (.skip)))))) (zz9))))∧z7 T 197 zj5 [0,2,3,5,10,11,12,17,18,19]∧RR zmd [oo 56 (oC .add 3 12 1),oo 12 (oM 56)]∧RI zgk (.seq (yag) (.seq (.cond (.tmp 13) (.skip) (.exit 0)) (.seq (.block 1 (.seq (yaf) (.seq (yae) (.block 2 (.loop zj5))))) (zmd))))∧z7 T 197 zgk [0,2,3,10,11,12]∧zu T 197 [] false:=by refine⟨zz T ?_,zz T ?_,zz T ?_,zz T ?_,zz T ?_,zz T ?_,zz T ?_,zz T ?_,zz T ?_,zl T ?_,z8 T ?_,zz T ?_,zl T ?_,z8 T ?_,zf T (F:=f197) ?_ ?_ ?_⟩<;>kernel_rfl
@[go_sem]theorem fr205:x9 T 205 false none false∧zd T 205 3:=by refine⟨⟨?_,?_,?_⟩,zm T (F:=f205) ?_ ?_⟩<;>kernel_rfl
@[go_sem]theorem fr206:x9 T 206 false none false∧zd T 206 3:=by refine⟨⟨?_,?_,?_⟩,zm T (F:=f206) ?_ ?_⟩<;>kernel_rfl
@[go_sem]theorem fr207:x9 T 207 false none false∧zd T 207 3:=by refine⟨⟨?_,?_,?_⟩,zm T (F:=f207) ?_ ?_⟩<;>kernel_rfl
@[go_sem]theorem fr208:x9 T 208 false none false∧zd T 208 3:=by refine⟨⟨?_,?_,?_⟩,zm T (F:=f208) ?_ ?_⟩<;>kernel_rfl
def zzr:=nv 2 f205
def zzq:=nv 6 f205
theorem xf5:qq T 205 15 (.seq (zzr) (.seq (zzq) (.ret))):=zh T (F:=f205) (by kernel_rfl) (by kernel_rfl) (by kernel_rfl)
@[go_sem↓]theorem run205:RR zzr [oo 4 (oi 0)]∧RR zzq [oo 5 (oM 0),oo 6 (oN 5 28),oo 7 (oM 1),oo 8 (oN 7 28),oo 9 (o2 207 6 8 3 3),oo 10 (oM 0),oo 11 (oM 1),oo 12 (o2 208 10 11 28 28),oo 13 (.buildSlice 28 2 #[(0,.tmp 9),(1,.tmp 12)]),oo 14 (o1 206 13 28),oo 4 (oG 14)]∧zu T 205 [.tmp 4] false:=by refine⟨zz T ?_,zz T ?_,zf T (F:=f205) ?_ ?_ ?_⟩<;>kernel_rfl
def zzp:=nv 2 f206
def zzo:=nv 6 f206
def zzn:=nv 28 f206
def zpn:=nv 116 f206
def zzm:=nv 232 f206
def zzl:=nv 3736 f206
def zzk:=nv 7474 f206
def zzj:=nv 29900 f206
def zzi:=nv 935 f206
def zzh:=nv 30 f206
theorem xf4:qq T 206 18 (.seq (zzp) (.seq (zzo) (.seq (.seq (zzn) (.block 0 (.loop zpn))) (.seq (zzh) (.ret))))):=zh T (F:=f206) (by kernel_rfl) (by kernel_rfl) (by kernel_rfl)
@[go_sem↓]theorem run206:RR zzp [oo 2 (oi 0)]∧RR zzo [oo 3 (oi 0)]∧RR zzn [oo 6 (oM 0),oo 7 (oN 6 28),oo 8 (.move (.const (.int .i64 0)))]∧RR zzm [oo 9 (oB .lss 3 8 7)]∧RR zzl [oo 10 (oI 28 6 8),oo 11 (oL 3 10),oo 5 (oG 11)]∧RR zzk [oo 12 (oM 5),oo 13 (oM 3),oo 14 (oB .neq 3 12 13)]∧RR zzj [oo 15 (oM 5),oo 2 (oG 15)]∧RR zzi [oo 16 (oC .add 3 8 1),oo 8 (oM 16)]∧RI zpn (.seq (zzm) (.seq (.cond (.tmp 9) (.skip) (.exit 0)) (.seq (.block 1 (.seq (zzl) (.seq (zzk) (.cond (.tmp 14) (.seq (zzj) (.ret)) (.skip))))) (zzi))))∧z7 T 206 zpn [3,6,7,8]∧RR zzh [oo 17 (oM 3),oo 2 (oG 17)]∧zu T 206 [.tmp 2] false:=by refine⟨zz T ?_,zz T ?_,zz T ?_,zz T ?_,zz T ?_,zz T ?_,zz T ?_,zz T ?_,zl T ?_,z8 T ?_,zz T ?_,zf T (F:=f206) ?_ ?_ ?_⟩<;>kernel_rfl
def zzg:=nv 2 f207
def zzf:=nv 6 f207
def zza:=nv 14 f207
def zy9:=nv 60 f207
def zy8:=nv 488 f207
def zy7:=nv 1956 f207
def zy6:=nv 490 f207
def zy5:=nv 124 f207
def zy4:=nv 500 f207
def zy3:=nv 252 f207
def zze:=nv 1012 f207
def zzd:=nv 508 f207
def zzc:=nv 2036 f207
def zzb:=nv 510 f207
theorem xf3:qq T 207 20 (.seq (zzg) (.seq (zzf) (.seq (zza) (.seq (.seq (zy9) (.cond (.tmp 11) (.seq (.seq (zy8) (.cond (.tmp 12) (.seq (zy7) (.ret)) (.skip))) (.seq (zy6) (.ret))) (.skip))) (.seq (.seq (zy5) (.cond (.tmp 13) (.seq (zy4) (.ret)) (.skip))) (.seq (.seq (zy3) (.cond (.tmp 16) (.seq (zze) (.ret)) (.skip))) (.seq (.seq (zzd) (.cond (.tmp 19) (.seq (zzc) (.ret)) (.skip))) (.seq (zzb) (.ret))))))))):=zh T (F:=f207) (by kernel_rfl) (by kernel_rfl) (by kernel_rfl)
@[go_sem↓]theorem run207:RR zzg [oo 4 (oi 0)]∧RR zzf [oo 7 (oM 0),oo 8 (o1 234 7 3),oo 5 (oG 8)]∧RR zza [oo 9 (oM 1),oo 10 (o1 234 9 3),oo 6 (oG 10)]∧RR zy9 [oo 11 (oM 5)]∧RR zy8 [oo 12 (oM 6)]∧RR zy7 [oo 4 (oi 0)]∧RR zy6 [oo 4 (oi (-1))]∧RR zy5 [oo 13 (oM 6)]∧RR zy4 [oo 4 (oi 1)]∧RR zy3 [oo 14 (oM 0),oo 15 (oM 1),oo 16 (oB .lss 3 14 15)]∧RR zze [oo 4 (oi (-1))]∧RR zzd [oo 17 (oM 0),oo 18 (oM 1),oo 19 (oB .gtr 3 17 18)]∧RR zzc [oo 4 (oi 1)]∧RR zzb [oo 4 (oi 0)]∧zu T 207 [.tmp 4] false:=by refine⟨zz T ?_,zz T ?_,zz T ?_,zz T ?_,zz T ?_,zz T ?_,zz T ?_,zz T ?_,zz T ?_,zz T ?_,zz T ?_,zz T ?_,zz T ?_,zz T ?_,zf T (F:=f207) ?_ ?_ ?_⟩<;>kernel_rfl
def zy2:=nv 2 f208
def zy1:=nv 12 f208
def zj4:=nv 52 f208
def zyz:=nv 104 f208
def zyy:=nv 1688 f208
def zyx:=nv 6756 f208
def zyw:=nv 27028 f208
def zyv:=nv 6758 f208
def zyu:=nv 13518 f208
def zyt:=nv 27038 f208
def zys:=nv 108156 f208
def zy0:=nv 423 f208
def zmc:=nv 28 f208
def zmb:=nv 116 f208
def zma:=nv 30 f208
theorem xf2:qq T 208 36 (.seq (zy2) (.seq (.seq (zy1) (.block 0 (.loop zj4))) (.seq (.seq (zmc) (.cond (.tmp 35) (.seq (zmb) (.ret)) (.skip))) (.seq (zma) (.ret))))):=zh T (F:=f208) (by kernel_rfl) (by kernel_rfl) (by kernel_rfl)
@[go_sem↓]theorem run208:RR zy2 [oo 4 (oi 0)]∧RR zy1 [oo 9 (oM 0),oo 10 (oN 9 28),oo 11 (.move (.const (.int .i64 0)))]∧RR zyz [oo 12 (oB .lss 3 11 10)]∧RR zyy [oo 13 (oM 11),oo 14 (oI 28 9 11),oo 15 (oL 3 14),oo 5 (oG 13),oo 6 (oG 15)]∧RR zyx [oo 16 (oM 5),oo 17 (oM 1),oo 18 (oN 17 28),oo 19 (oB .geq 3 16 18)]∧RR zyw [oo 4 (oi 1)]∧RR zyv [oo 20 (oM 1),oo 21 (oM 5),oo 22 (oI 28 20 21),oo 23 (oL 3 22),oo 7 (oG 23)]∧RR zyu [oo 24 (oM 6),oo 25 (oM 7),oo 26 (o2 207 24 25 3 3),oo 8 (oG 26)]∧RR zyt [oo 27 (oM 8),oo 28 (oC .neq 3 27 0)]∧RR zys [oo 29 (oM 8),oo 4 (oG 29)]∧RR zy0 [oo 30 (oC .add 3 11 1),oo 11 (oM 30)]∧RI zj4 (.seq (zyz) (.seq (.cond (.tmp 12) (.skip) (.exit 0)) (.seq (.block 1 (.seq (zyy) (.seq (.seq (zyx) (.cond (.tmp 19) (.seq (zyw) (.ret)) (.skip))) (.seq (zyv) (.seq (zyu) (.seq (zyt) (.cond (.tmp 28) (.seq (zys) (.ret)) (.skip)))))))) (zy0))))∧z7 T 208 zj4 [0,1,9,10,11]∧RR zmc [oo 31 (oM 0),oo 32 (oN 31 28),oo 33 (oM 1),oo 34 (oN 33 28),oo 35 (oB .lss 3 32 34)]∧RR zmb [oo 4 (oi (-1))]∧RR zma [oo 4 (oi 0)]∧zu T 208 [.tmp 4] false:=by refine⟨zz T ?_,zz T ?_,zz T ?_,zz T ?_,zz T ?_,zz T ?_,zz T ?_,zz T ?_,zz T ?_,zz T ?_,zz T ?_,zl T ?_,z8 T ?_,zz T ?_,zz T ?_,zz T ?_,zf T (F:=f208) ?_ ?_ ?_⟩<;>kernel_rfl
@[go_sem]theorem fr36:x9 T 36 false none false∧yx T 36 22 29 []:=by refine⟨⟨?_,?_,?_⟩,wa T (F:=f36) ?_ ?_⟩<;>kernel_rfl
@[go_sem]theorem fr37:x9 T 37 false none false∧yx T 37 60 29 []:=by refine⟨⟨?_,?_,?_⟩,wa T (F:=f37) ?_ ?_⟩<;>kernel_rfl
@[go_sem]theorem fr38:x9 T 38 false none false∧yx T 38 60 29 []:=by refine⟨⟨?_,?_,?_⟩,wa T (F:=f38) ?_ ?_⟩<;>kernel_rfl
@[go_sem]theorem fr128:x9 T 128 true none false∧yx T 128 22 29 []:=by refine⟨⟨?_,?_,?_⟩,wa T (F:=f128) ?_ ?_⟩<;>kernel_rfl
@[go_sem]theorem zi4:x9 T 129 true none false:=⟨by kernel_rfl,by kernel_rfl,by kernel_rfl⟩
@[go_sem]theorem res129:zd T 129 22:=zm T (F:=f129) (by kernel_rfl) (by kernel_rfl)
@[go_sem]theorem xes:x9 T 130 true none false:=⟨by kernel_rfl,by kernel_rfl,by kernel_rfl⟩
@[go_sem]theorem res130:zd T 130 4:=zm T (F:=f130) (by kernel_rfl) (by kernel_rfl)
def zuq:=nv 2 f36
def zup:=nv 6 f36
def zuo:=nv 28 f36
def zun:=nv 116 f36
def zum:=nv 30 f36
theorem yn8:qq T 36 17 (.seq (zuq) (.seq (zup) (.seq (.seq (zuo) (.cond (.tmp 12) (.seq (zun) (.ret)) (.skip))) (.seq (zum) (.ret))))):=zh T (F:=f36) (by kernel_rfl) (by kernel_rfl) (by kernel_rfl)
@[go_sem↓]theorem run36:RR zuq [oo 1 (.box 34 (.tmp 0)),oo 2 on,oo 3 (oi 0)]∧RR zup [oo 7 (oL 34 1),oo 8 (o1 128 7 34),oo 6 (oM 8),oo 9 (oX 6 0),oo 10 (oX 6 1),oo 4 (.alloc 22),ow 22 4 9,oo 5 (oG 10)]∧RR zuo [oo 11 (oM 5),oo 12 (oC .neq 29 11 0)]∧RR zun [oo 13 (oM 5),oo 2 on,oo 3 (oG 13)]∧RR zum [oo 14 (oL 22 4),oo 15 (.makeFunc (.func 130) #[] #[.tmp 4]),oo 16 (o2 129 14 15 22 201),oo 2 (oG 16),oo 3 (oi 0)]∧zu T 36 [.tmp 2,.tmp 3] false:=by refine⟨zz T ?_,zz T ?_,zz T ?_,zz T ?_,zz T ?_,zf T (F:=f36) ?_ ?_ ?_⟩<;>kernel_rfl
@[go_sem]theorem fr131:x9 T 131 false none false∧yx T 131 60 29 []:=by refine⟨⟨?_,?_,?_⟩,wa T (F:=f131) ?_ ?_⟩<;>kernel_rfl
@[go_sem]theorem ynv:x9 T 132 false none false:=⟨by kernel_rfl,by kernel_rfl,by kernel_rfl⟩
@[go_sem]theorem yvz:zd T 132 4:=zm T (F:=f132) (by kernel_rfl) (by kernel_rfl)
def zul:=nv 2 f37
def zuk:=nv 6 f37
theorem xfm:qq T 37 8 (.seq (zul) (.seq (zuk) (.ret))):=zh T (F:=f37) (by kernel_rfl) (by kernel_rfl) (by kernel_rfl)
@[go_sem↓]theorem run37:RR zul [oo 1 (.box 34 (.tmp 0)),oo 2 on,oo 3 (oi 0)]∧RR zuk [oo 4 (oL 34 1),oo 5 (.call ⟨.value (.func 131),#[.tmp 4,.func 132],#[34,205]⟩),oo 6 (oX 5 0),oo 7 (oX 5 1),oo 2 (oG 6),oo 3 (oG 7)]∧zu T 37 [.tmp 2,.tmp 3] false:=by refine⟨zz T ?_,zz T ?_,zf T (F:=f37) ?_ ?_ ?_⟩<;>kernel_rfl
@[go_sem]theorem ynu:x9 T 133 false none false:=⟨by kernel_rfl,by kernel_rfl,by kernel_rfl⟩
@[go_sem]theorem yvy:zd T 133 4:=zm T (F:=f133) (by kernel_rfl) (by kernel_rfl)
def zuj:=nv 2 f38
def zui:=nv 6 f38
theorem xfl:qq T 38 8 (.seq (zuj) (.seq (zui) (.ret))):=zh T (F:=f38) (by kernel_rfl) (by kernel_rfl) (by kernel_rfl)
@[go_sem↓]theorem run38:RR zuj [oo 1 (.box 34 (.tmp 0)),oo 2 on,oo 3 (oi 0)]∧RR zui [oo 4 (oL 34 1),oo 5 (.call ⟨.value (.func 131),#[.tmp 4,.func 133],#[34,205]⟩),oo 6 (oX 5 0),oo 7 (oX 5 1),oo 2 (oG 6),oo 3 (oG 7)]∧zu T 38 [.tmp 2,.tmp 3] false:=by refine⟨zz T ?_,zz T ?_,zf T (F:=f38) ?_ ?_ ?_⟩<;>kernel_rfl
@[go_sem]theorem fr198:x9 T 198 true none false∧zd T 198 22:=by refine⟨⟨?_,?_,?_⟩,zm T (F:=f198) ?_ ?_⟩<;>kernel_rfl
def yhl:=nv 2 f128
def yhk:=nv 12 f128
def yhj:=nv 26 f128
def yhh:=nv 108 f128
def yhg:=nv 14 f128
def yhf:=nv 30 f128
theorem yog:qq T 128 18 (.seq (yhl) (.seq (.seq (yhk) (.seq (yhj) (.cond (.tmp 9) (.seq (yhh) (.ret)) (.skip)))) (.seq (yhg) (.seq (yhf) (.ret))))):=zh T (F:=f128) (by kernel_rfl) (by kernel_rfl) (by kernel_rfl)
@[go_sem↓]theorem run128:RR yhl [oo 1 (.box 34 (.tmp 0)),oo 2 on,oo 3 (oi 0)]∧RR yhk [oo 6 (oL 34 1),oo 7 (o1 23 6 34),oo 4 (oG 7)]∧RR yhj [oo 8 (oM 4),oo 9 (oC .neq 29 8 0)]∧RR yhh [oo 10 (oM 4),oo 2 on,oo 3 (oG 10)]∧RR yhg [oo 11 (oL 34 1),oo 12 (o1 198 11 34),oo 5 (oG 12)]∧RR yhf [oo 13 (oM 5),oo 14 (oM 5),oo 15 (oN 14 22),oo 16 (oC .eql 3 15 0),oo 17 (.call ⟨.value (.func 115),#[.tmp 16,.const (.int .i64 18)],#[4,29]⟩),oo 2 (oG 13),oo 3 (oG 17)]∧zu T 128 [.tmp 2,.tmp 3] true:=by refine⟨zz T ?_,zz T ?_,zz T ?_,zz T ?_,zz T ?_,zz T ?_,zf T (F:=f128) ?_ ?_ ?_⟩<;>kernel_rfl
@[go_sem]theorem yns:x9 T 199 true none false:=⟨by kernel_rfl,by kernel_rfl,by kernel_rfl⟩
@[go_sem]theorem res199:zd T 199 3:=zm T (F:=f199) (by kernel_rfl) (by kernel_rfl)
def yhe:=nv 2 f129
def yhd:=nv 6 f129
def yhb:=nv 28 f129
def yha:=nv 116 f129
def yg9:=nv 60 f129
def zgn:=nv 244 f129
def yg8:=nv 976 f129
def yg6:=nv 3912 f129
def yg5:=nv 7826 f129
def yg4:=nv 31308 f129
def yhc:=nv 31309 f129
def yg7:=nv 979 f129
def zh2:=nv 62 f129
def zh1:=nv 126 f129
theorem yof:qq T 129 42 (.seq (yhe) (.seq (yhd) (.seq (.seq (yhb) (.cond (.tmp 12) (.seq (yha) (.ret)) (.skip))) (.seq (.seq (yg9) (.block 0 (.loop zgn))) (.seq (zh2) (.seq (zh1) (.ret))))))):=zh T (F:=f129) (by kernel_rfl) (by kernel_rfl) (by kernel_rfl)
@[go_sem↓]theorem run129:RR yhe [oo 4 on]∧RR yhd [oo 8 (oM 0),oo 9 (oM 1),oo 10 (o2 199 8 9 22 201),oo 5 (oG 10)]∧RR yhb [oo 11 (oM 5),oo 12 (oC .eql 3 11 (-1))]∧RR yha [oo 13 (oM 0),oo 4 (oG 13)]∧RR yg9 [oo 14 (oM 5),oo 15 (oC .add 3 14 1),oo 6 (oG 15)]∧RR yg8 [oo 16 (oM 6),oo 17 (oM 0),oo 18 (oN 17 22),oo 19 (oB .lss 3 16 18)]∧RR yg6 [oo 22 (oM 0),oo 23 (oM 6),oo 24 (oI 22 22 23),oo 25 (oL 28 24),oo 7 (oG 25)]∧RR yg5 [oo 26 (oM 1),oo 27 (oM 7),oo 28 (.call ⟨.value (.tmp 26),#[.tmp 27],#[28]⟩),oo 29 (.unOp .not 4 (.tmp 28))]∧RR yg4 [oo 30 (oM 0),oo 31 (oM 5),oo 32 (oM 7),oo 33 (oI 22 30 31),ow 28 33 32]∧RR yhc [oo 34 (oM 5),oo 35 (oC .add 3 34 1),oo 5 (oG 35)]∧RR yg7 [oo 20 (oM 6),oo 21 (oC .add 3 20 1),oo 6 (oG 21)]∧RI zgn (.seq (.seq (yg8) (.cond (.tmp 19) (.skip) (.exit 0))) (.seq (.block 1 (.seq (yg6) (.seq (yg5) (.cond (.tmp 29) (.seq (yg4) (yhc)) (.skip))))) (yg7)))∧z7 T 129 zgn [0,1,5,6]∧RR zh2 [oo 36 (oM 0),oo 37 (oM 5),oo 38 (.slice 22 (.tmp 36) (some (.tmp 37)) none none),⟨none,.call ⟨.builtin .clear,#[.tmp 38],#[22]⟩,none⟩]∧RR zh1 [oo 39 (oM 0),oo 40 (oM 5),oo 41 (.slice 22 (.tmp 39) none (some (.tmp 40)) none),oo 4 (oG 41)]∧zu T 129 [.tmp 4] true:=by refine⟨zz T ?_,zz T ?_,zz T ?_,zz T ?_,zz T ?_,zz T ?_,zz T ?_,zz T ?_,zz T ?_,zz T ?_,zz T ?_,zl T ?_,z8 T ?_,zz T ?_,zz T ?_,zf T (F:=f129) ?_ ?_ ?_⟩<;>kernel_rfl
def yg3:=nv 2 f130
def yg2:=nv 6 f130
theorem xg9:qq T 130 11 (.seq (yg3) (.seq (yg2) (.ret))):=zh T (F:=f130) (by kernel_rfl) (by kernel_rfl) (by kernel_rfl)
@[go_sem↓]theorem run130:RR yg3 [oo 3 (.assign (.const (.bool false)))]∧RR yg2 [oo 4 (oM 0),oo 5 (oN 4 28),oo 6 (oL 22 1),oo 7 (.indexAddr 22 (.tmp 6) (.const (.int .i64 0))),oo 8 (oL 28 7),oo 9 (oN 8 28),oo 10 (oB .gtr 3 5 9),oo 3 (oG 10)]∧zu T 130 [.tmp 3] true:=by refine⟨zz T ?_,zz T ?_,zf T (F:=f130) ?_ ?_ ?_⟩<;>kernel_rfl
@[go_sem]theorem fr174:x9 T 174 false none false∧zd T 174 60:=by refine⟨⟨?_,?_,?_⟩,zm T (F:=f174) ?_ ?_⟩<;>kernel_rfl
@[go_sem]theorem fr200:x9 T 200 false none false∧zd T 200 4:=by refine⟨⟨?_,?_,?_⟩,zm T (F:=f200) ?_ ?_⟩<;>kernel_rfl
@[go_sem]theorem fr201:x9 T 201 false none false∧zd T 201 9:=by refine⟨⟨?_,?_,?_⟩,zm T (F:=f201) ?_ ?_⟩<;>kernel_rfl
def yg1:=nv 2 f131
def yg0:=nv 6 f131
def ygu:=nv 28 f131
def ygt:=nv 116 f131
def ygs:=nv 30 f131
def ygr:=nv 124 f131
def zgm:=nv 500 f131
def ygq:=nv 1000 f131
def ygp:=nv 16024 f131
def ygo:=nv 32050 f131
def ygn:=nv 128204 f131
def zkm:=nv 512820 f131
def ygz:=nv 1025640 f131
def ygy:=nv 16410264 f131
def ygx:=nv 32820530 f131
def ygw:=nv 65641062 f131
def ygv:=nv 4102567 f131
def zmx:=nv 128206 f131
def zmw:=nv 256414 f131
def zmv:=nv 4007 f131
def zh0:=nv 126 f131
theorem yoe:qq T 131 54 (.seq (yg1) (.seq (yg0) (.seq (.seq (ygu) (.cond (.tmp 20) (.seq (ygt) (.ret)) (.skip))) (.seq (ygs) (.seq (.seq (ygr) (.block 0 (.loop zgm))) (.seq (zh0) (.ret))))))):=zh T (F:=f131) (by kernel_rfl) (by kernel_rfl) (by kernel_rfl)
@[go_sem↓]theorem run131:RR yg1 [oo 2 (.box 34 (.tmp 0)),oo 4 on,oo 5 (oi 0)]∧RR yg0 [oo 15 (oL 34 2),oo 16 (o1 128 15 34),oo 14 (oM 16),oo 17 (oX 14 0),oo 18 (oX 14 1),oo 6 (oG 17),oo 7 (oG 18)]∧RR ygu [oo 19 (oM 7),oo 20 (oC .neq 29 19 0)]∧RR ygt [oo 21 (oM 7),oo 4 on,oo 5 (oG 21)]∧RR ygs [oo 8 on]∧RR ygr [oo 22 (oF 34 2 2),oo 23 (oL 32 22),oo 24 (oN 23 32),oo 25 (.move (.const (.int .i64 0)))]∧RR ygq [oo 26 (oB .lss 3 25 24)]∧RR ygp [oo 27 (oM 25),oo 28 (oI 32 23 25),oo 29 (oL 180 28),oo 10 (.alloc 180),oo 9 (oG 27),ow 180 10 29]∧RR ygo [oo 11 (oi 0)]∧RR ygn [oo 30 (oM 6),oo 31 (oN 30 22),oo 32 (.move (.const (.int .i64 0)))]∧RR ygz [oo 33 (oB .lss 3 32 31)]∧RR ygy [oo 34 (oI 22 30 32),oo 35 (oL 28 34),oo 13 (oG 35)]∧RR ygx [oo 36 (oM 13),oo 37 (oM 9),oo 38 (o2 200 36 37 28 3)]∧RR ygw [oo 39 (oM 11),oo 40 (oC .add 3 39 1),oo 11 (oG 40)]∧RR ygv [oo 41 (oC .add 3 32 1),oo 32 (oM 41)]∧RI zkm (.seq (ygz) (.seq (.cond (.tmp 33) (.skip) (.exit 2)) (.seq (.block 3 (.seq (ygy) (.seq (ygx) (.cond (.tmp 38) (ygw) (.skip))))) (ygv))))∧z7 T 131 zkm [1,6,8,9,10,11,23,24,25,30,31,32]∧RR zmx [oo 42 (oM 1),oo 43 (oM 11),oo 44 (oM 6),oo 45 (oN 44 22),oo 46 (.call ⟨.value (.tmp 42),#[.tmp 43,.tmp 45],#[3,3]⟩)]∧RR zmw [oo 47 (oM 8),oo 48 (oL 180 10),oo 49 (oS 32 48),oo 50 (oA 47 49 32),oo 8 (oG 50)]∧RR zmv [oo 51 (oC .add 3 25 1),oo 25 (oM 51)]∧RI zgm (.seq (ygq) (.seq (.cond (.tmp 26) (.skip) (.exit 0)) (.seq (.block 1 (.seq (ygp) (.seq (ygo) (.seq (.seq (ygn) (.block 2 (.loop zkm))) (.seq (zmx) (.cond (.tmp 46) (zmw) (.skip))))))) (zmv))))∧z7 T 131 zgm [1,6,8,23,24,25]∧RR zh0 [oo 52 (oM 8),oo 53 (.call ⟨.value (.func 174),#[.tmp 52,.func 201],#[32,257]⟩),oo 4 (oG 53),oo 5 (oi 0)]∧zu T 131 [.tmp 4,.tmp 5] false:=by refine⟨zz T ?_,zz T ?_,zz T ?_,zz T ?_,zz T ?_,zz T ?_,zz T ?_,zz T ?_,zz T ?_,zz T ?_,zz T ?_,zz T ?_,zz T ?_,zz T ?_,zz T ?_,zl T ?_,z8 T ?_,zz T ?_,zz T ?_,zz T ?_,zl T ?_,z8 T ?_,zz T ?_,zf T (F:=f131) ?_ ?_ ?_⟩<;>kernel_rfl
def ygm:=nv 2 f132
def ygl:=nv 6 f132
theorem xg8:qq T 132 8 (.seq (ygm) (.seq (ygl) (.ret))):=zh T (F:=f132) (by kernel_rfl) (by kernel_rfl) (by kernel_rfl)
@[go_sem↓]theorem run132:RR ygm [oo 4 (.assign (.const (.bool false)))]∧RR ygl [oo 5 (oM 0),oo 6 (oM 1),oo 7 (oB .eql 3 5 6),oo 4 (oG 7)]∧zu T 132 [.tmp 4] false:=by refine⟨zz T ?_,zz T ?_,zf T (F:=f132) ?_ ?_ ?_⟩<;>kernel_rfl
def ygk:=nv 2 f133
def ygj:=nv 6 f133
theorem xg7:qq T 133 7 (.seq (ygk) (.seq (ygj) (.ret))):=zh T (F:=f133) (by kernel_rfl) (by kernel_rfl) (by kernel_rfl)
@[go_sem↓]theorem run133:RR ygk [oo 4 (.assign (.const (.bool false)))]∧RR ygj [oo 5 (oM 0),oo 6 (oC .gtr 3 5 0),oo 4 (oG 6)]∧zu T 133 [.tmp 4] false:=by refine⟨zz T ?_,zz T ?_,zf T (F:=f133) ?_ ?_ ?_⟩<;>kernel_rfl
def ydm:=nv 2 f174
def ydl:=nv 6 f174
def ydk:=nv 28 f174
def zgl:=nv 116 f174
def ydj:=nv 232 f174
def ydi:=nv 3736 f174
def ydh:=nv 3737 f174
def ydg:=nv 935 f174
def zhz:=nv 30 f174
theorem zoo:qq T 174 22 (.seq (ydm) (.seq (ydl) (.seq (.seq (ydk) (.block 0 (.loop zgl))) (.seq (zhz) (.ret))))):=zh T (F:=f174) (by kernel_rfl) (by kernel_rfl) (by kernel_rfl)
@[go_sem↓]theorem run174:RR ydm [oo 4 on]∧RR ydl [oo 5 on]∧RR ydk [oo 8 (oM 0),oo 9 (oN 8 32),oo 10 (.move (.const (.int .i64 0)))]∧RR ydj [oo 11 (oB .lss 3 10 9)]∧RR ydi [oo 12 (oI 32 8 10),oo 13 (oL 180 12),oo 7 (.alloc 180),ow 180 7 13]∧RR ydh [oo 14 (oM 5),oo 15 (oM 1),oo 16 (oL 180 7),oo 17 (.call ⟨.value (.tmp 15),#[.tmp 16],#[180]⟩),oo 18 (oS 60 17),oo 19 (oA 14 18 60),oo 5 (oG 19)]∧RR ydg [oo 20 (oC .add 3 10 1),oo 10 (oM 20)]∧RI zgl (.seq (ydj) (.seq (.cond (.tmp 11) (.skip) (.exit 0)) (.seq (.block 1 (.seq (ydi) (ydh))) (ydg))))∧z7 T 174 zgl [1,5,8,9,10]∧RR zhz [oo 21 (oM 5),oo 4 (oG 21)]∧zu T 174 [.tmp 4] false:=by refine⟨zz T ?_,zz T ?_,zz T ?_,zz T ?_,zz T ?_,zz T ?_,zz T ?_,zl T ?_,z8 T ?_,zz T ?_,zf T (F:=f174) ?_ ?_ ?_⟩<;>kernel_rfl
@[go_sem]theorem fr136:x9 T 136 false none false∧zd T 136 209:=by refine⟨⟨?_,?_,?_⟩,zm T (F:=f136) ?_ ?_⟩<;>kernel_rfl
def zz8:=nv 2 f198
def zz7:=nv 6 f198
def zz6:=nv 28 f198
def zgz:=nv 116 f198
def zf8:=nv 117 f198
def zz5:=nv 116 f198
def zz4:=nv 468 f198
def zz3:=nv 938 f198
def r198_6:=nv 30 f198
theorem xf9:qq T 198 18 (.seq (zz8) (.seq (zz7) (.seq (.seq (zz6) (.block 0 (.rangeFunc (.tmp 8) #[9] zgz zf8))) (.seq (r198_6) (.ret))))):=zh T (F:=f198) (by kernel_rfl) (by kernel_rfl) (by kernel_rfl)
@[go_sem↓]theorem run198:RR zz8 [oo 1 (.box 34 (.tmp 0)),oo 2 on]∧RR zz7 [oo 3 (.alloc 22)]∧RR zz6 [oo 5 (oF 34 1 2),oo 6 (oL 32 5),oo 7 (oN 6 32),oo 8 (o1 136 7 3)]∧RR zz5 [oo 4 (oG 9)]∧RR zz4 [oo 10 (oL 34 1),oo 11 (oM 4),oo 12 (o2 126 10 11 34 28)]∧RR zz3 [oo 13 (oL 22 3),oo 14 (oM 4),oo 15 (oS 22 14),oo 16 (oA 13 15 22),ow 22 3 16]∧RI zgz (zz5)∧RI zf8 (.block 1 (.seq (zz4) (.cond (.tmp 12) (zz3) (.skip))))∧RR r198_6 [oo 17 (oL 22 3),oo 2 (oG 17)]∧zu T 198 [.tmp 2] true:=by refine⟨zz T ?_,zz T ?_,zz T ?_,zz T ?_,zz T ?_,zz T ?_,zl T ?_,zl T ?_,zz T ?_,zf T (F:=f198) ?_ ?_ ?_⟩<;>kernel_rfl
def zz2:=nv 2 f199
def zz1:=nv 12 f199
def zgj:=nv 52 f199
def zz0:=nv 104 f199
def zzz:=nv 1688 f199
def zzy:=nv 3378 f199
def zzx:=nv 13516 f199
def zzw:=nv 423 f199
def zhy:=nv 14 f199
theorem yoc:qq T 199 19 (.seq (zz2) (.seq (.seq (zz1) (.block 0 (.loop zgj))) (.seq (zhy) (.ret)))):=zh T (F:=f199) (by kernel_rfl) (by kernel_rfl) (by kernel_rfl)
@[go_sem↓]theorem run199:RR zz2 [oo 4 (oi 0)]∧RR zz1 [oo 6 (oM 0),oo 7 (oN 6 22),oo 8 (.move (.const (.int .i64 0)))]∧RR zz0 [oo 9 (oB .lss 3 8 7)]∧RR zzz [oo 10 (oM 8),oo 5 (oG 10)]∧RR zzy [oo 11 (oM 1),oo 12 (oM 0),oo 13 (oM 5),oo 14 (oI 22 12 13),oo 15 (oL 28 14),oo 16 (.call ⟨.value (.tmp 11),#[.tmp 15],#[28]⟩)]∧RR zzx [oo 17 (oM 5),oo 4 (oG 17)]∧RR zzw [oo 18 (oC .add 3 8 1),oo 8 (oM 18)]∧RI zgj (.seq (zz0) (.seq (.cond (.tmp 9) (.skip) (.exit 0)) (.seq (.block 1 (.seq (zzz) (.seq (zzy) (.cond (.tmp 16) (.seq (zzx) (.ret)) (.skip))))) (zzw))))∧z7 T 199 zgj [0,1,7,8]∧RR zhy [oo 4 (oi (-1))]∧zu T 199 [.tmp 4] true:=by refine⟨zz T ?_,zz T ?_,zz T ?_,zz T ?_,zz T ?_,zz T ?_,zz T ?_,zl T ?_,z8 T ?_,zz T ?_,zf T (F:=f199) ?_ ?_ ?_⟩<;>kernel_rfl
@[go_sem]theorem fr231:x9 T 231 false none false∧zd T 231 3:=by refine⟨⟨?_,?_,?_⟩,zm T (F:=f231) ?_ ?_⟩<;>kernel_rfl
def zzv:=nv 2 f200
def zzu:=nv 6 f200
theorem xf7:qq T 200 9 (.seq (zzv) (.seq (zzu) (.ret))):=zh T (F:=f200) (by kernel_rfl) (by kernel_rfl) (by kernel_rfl)
@[go_sem↓]theorem run200:RR zzv [oo 4 (.assign (.const (.bool false)))]∧RR zzu [oo 5 (oM 0),oo 6 (oM 1),oo 7 (o2 231 5 6 28 3),oo 8 (oC .geq 3 7 0),oo 4 (oG 8)]∧zu T 200 [.tmp 4] false:=by refine⟨zz T ?_,zz T ?_,zf T (F:=f200) ?_ ?_ ?_⟩<;>kernel_rfl
def zzt:=nv 2 f201
def zzs:=nv 6 f201
theorem xf6:qq T 201 5 (.seq (zzt) (.seq (zzs) (.ret))):=zh T (F:=f201) (by kernel_rfl) (by kernel_rfl) (by kernel_rfl)
@[go_sem↓]theorem run201:RR zzt [oo 1 (.box 180 (.tmp 0)),oo 2 (.assign (.const (.string ⟨#[]⟩)))]∧RR zzs [oo 3 (oF 180 1 0),oo 4 (oL 9 3),oo 2 (oG 4)]∧zu T 201 [.tmp 2] false:=by refine⟨zz T ?_,zz T ?_,zf T (F:=f201) ?_ ?_ ?_⟩<;>kernel_rfl
@[go_sem]theorem zd9:x9 T 235 false none false:=⟨by kernel_rfl,by kernel_rfl,by kernel_rfl⟩
@[go_sem]theorem zlr:zb8 T 235:=zdo T (F:=f235) (by kernel_rfl) (by kernel_rfl)
def zwn:=nv 2 f231
def zwm:=nv 12 f231
def zjy:=nv 52 f231
def zwl:=nv 104 f231
def zwk:=nv 1688 f231
def zwj:=nv 3378 f231
def zwi:=nv 13516 f231
def zwh:=nv 423 f231
def zl4:=nv 14 f231
theorem xft:qq T 231 19 (.seq (zwn) (.seq (.seq (zwm) (.block 0 (.loop zjy))) (.seq (zl4) (.ret)))):=zh T (F:=f231) (by kernel_rfl) (by kernel_rfl) (by kernel_rfl)
@[go_sem↓]theorem run231:RR zwn [oo 4 (oi 0)]∧RR zwm [oo 6 (oM 0),oo 7 (oN 6 28),oo 8 (.move (.const (.int .i64 0)))]∧RR zwl [oo 9 (oB .lss 3 8 7)]∧RR zwk [oo 10 (oM 8),oo 5 (oG 10)]∧RR zwj [oo 11 (oM 1),oo 12 (oM 0),oo 13 (oM 5),oo 14 (oI 28 12 13),oo 15 (oL 3 14),oo 16 (oB .eql 3 11 15)]∧RR zwi [oo 17 (oM 5),oo 4 (oG 17)]∧RR zwh [oo 18 (oC .add 3 8 1),oo 8 (oM 18)]∧RI zjy (.seq (zwl) (.seq (.cond (.tmp 9) (.skip) (.exit 0)) (.seq (.block 1 (.seq (zwk) (.seq (zwj) (.cond (.tmp 16) (.seq (zwi) (.ret)) (.skip))))) (zwh))))∧z7 T 231 zjy [0,1,7,8]∧RR zl4 [oo 4 (oi (-1))]∧zu T 231 [.tmp 4] false:=by refine⟨zz T ?_,zz T ?_,zz T ?_,zz T ?_,zz T ?_,zz T ?_,zz T ?_,zl T ?_,z8 T ?_,zz T ?_,zf T (F:=f231) ?_ ?_ ?_⟩<;>kernel_rfl
def zwe:=nv 2 f235
def zjx:=nv 12 f235
def zwd:=nv 24 f235
def zwc:=nv 408 f235
def zwb:=nv 818 f235
def zwa:=nv 103 f235
theorem xfr:qq T 235 16 (.seq (zwe) (.block 0 (.loop zjx))):=zh T (F:=f235) (by kernel_rfl) (by kernel_rfl) (by kernel_rfl)
@[go_sem↓]theorem run235:RR zwe [oo 5 (oL 22 1),oo 6 (oN 5 22),oo 7 (.move (.const (.int .i64 0)))]∧RR zwd [oo 8 (oB .lss 3 7 6)]∧RR zwc [oo 9 (oI 22 5 7),oo 10 (oL 28 9),oo 4 (oG 10)]∧RR zwb [oo 11 (oM 0),oo 12 (oM 4),oo 13 (.call ⟨.value (.tmp 11),#[.tmp 12],#[28]⟩),oo 14 (.unOp .not 4 (.tmp 13))]∧RR zwa [oo 15 (oC .add 3 7 1),oo 7 (oM 15)]∧RI zjx (.seq (zwd) (.seq (.cond (.tmp 8) (.skip) (.exit 0)) (.seq (.block 1 (.seq (zwc) (.seq (zwb) (.cond (.tmp 14) (.ret) (.skip))))) (zwa))))∧z7 T 235 zjx [0,5,6,7]∧zu T 235 [] false:=by refine⟨zz T ?_,zz T ?_,zz T ?_,zz T ?_,zz T ?_,zl T ?_,z8 T ?_,zf T (F:=f235) ?_ ?_ ?_⟩<;>kernel_rfl
@[go_sem]theorem fr45:x9 T 45 false none false∧yx T 45 48 29 []:=by refine⟨⟨?_,?_,?_⟩,wa T (F:=f45) ?_ ?_⟩<;>kernel_rfl
@[go_sem]theorem fr46:x9 T 46 false none false∧zd T 46 29:=by refine⟨⟨?_,?_,?_⟩,zm T (F:=f46) ?_ ?_⟩<;>kernel_rfl
@[go_sem]theorem fr47:x9 T 47 false none false∧zd T 47 48:=by refine⟨⟨?_,?_,?_⟩,zm T (F:=f47) ?_ ?_⟩<;>kernel_rfl
def zud:=nv 2 f45
def zhk:=nv 6 f45
def zuc:=nv 12 f45
def zua:=nv 52 f45
def zt9:=nv 212 f45
def zt8:=nv 54 f45
def zt7:=nv 444 f45
def zc8:=nv 1780 f45
def zc4:=nv 1781 f45
def zt6:=nv 1780 f45
def zt5:=nv 14248 f45
def zt4:=nv 14250 f45
def zk1:=nv 57004 f45
def zjj:=nv 57005 f45
def zt3:=nv 57004 f45
def zub:=nv 228020 f45
def r45_11:=nv 446 f45
theorem yn7:qq T 45 38 (.seq (zud) (.scope zhk)):=zh T (F:=f45) (by kernel_rfl) (by kernel_rfl) (by kernel_rfl)
@[go_sem↓]theorem run45:RR zud [oo 1 (.box 34 (.tmp 0)),oo 2 on,oo 3 (oi 0)]∧RR zuc [oo 10 (oL 34 1),oo 11 (o1 128 10 34),oo 9 (oM 11),oo 12 (oX 9 0),oo 13 (oX 9 1),oo 4 (.alloc 22),ow 22 4 12,oo 5 (oG 13)]∧RR zua [oo 14 (oM 5),oo 15 (oC .neq 29 14 0)]∧RR zt9 [oo 16 (oM 5),oo 2 on,oo 3 (oG 16)]∧RR zt8 [oo 6 (.alloc 48)]∧RR zt7 [oo 17 (oF 34 1 2),oo 18 (oL 32 17),oo 19 (oN 18 32),oo 20 (o1 136 19 3)]∧RR zt6 [oo 7 (oG 21)]∧RR zt5 [oo 22 (oM 7),oo 23 (oN 22 28),oo 24 (oL 22 4),oo 25 (.indexAddr 22 (.tmp 24) (.const (.int .i64 0))),oo 26 (oL 28 25),oo 27 (oN 26 28),oo 28 (oB .geq 3 23 27)]∧RR zt4 [oo 29 (oL 34 1),oo 30 (oM 7),oo 31 (o2 125 29 30 34 28)]∧RR zt3 [oo 8 (.alloc 100),ow 100 8 32]∧RR zub [oo 33 (oL 48 6),oo 34 (oL 100 8),oo 35 (oS 48 34),oo 36 (oA 33 35 48),ow 48 6 36]∧RI zk1 (zt3)∧RI zjj (.block 3 (.seq (zub) (.exit 1)))∧RI zc8 (zt6)∧RI zc4 (.block 1 (.seq (.seq (zt5) (.cond (.tmp 28) (.exit 0) (.skip))) (.seq (zt4) (.block 2 (.rangeFunc (.tmp 31) #[32] zk1 zjj)))))∧RR r45_11 [oo 37 (oL 48 6),oo 2 (oG 37),oo 3 (oi 0)]∧RI zhk (.seq (zuc) (.seq (.seq (zua) (.cond (.tmp 15) (.seq (zt9) (.ret)) (.skip))) (.seq (zt8) (.seq (.label 0) (.seq (.seq (zt7) (.block 0 (.rangeFunc (.tmp 20) #[21] zc8 zc4))) (.seq (r45_11) (.ret)))))))∧zu T 45 [.tmp 2,.tmp 3] false:=by refine⟨zz T ?_,zz T ?_,zz T ?_,zz T ?_,zz T ?_,zz T ?_,zz T ?_,zz T ?_,zz T ?_,zz T ?_,zz T ?_,zl T ?_,zl T ?_,zl T ?_,zl T ?_,zz T ?_,zl T ?_,zf T (F:=f45) ?_ ?_ ?_⟩<;>kernel_rfl
@[go_sem]theorem fr138:x9 T 138 true none false∧zd T 138 22:=by refine⟨⟨?_,?_,?_⟩,zm T (F:=f138) ?_ ?_⟩<;>kernel_rfl
@[go_sem]theorem fr139:x9 T 139 false none false∧zd T 139 4:=by refine⟨⟨?_,?_,?_⟩,zm T (F:=f139) ?_ ?_⟩<;>kernel_rfl
@[go_sem]theorem fr140:x9 T 140 false none false∧zd T 140 29:=by refine⟨⟨?_,?_,?_⟩,zm T (F:=f140) ?_ ?_⟩<;>kernel_rfl
@[go_sem]theorem fr141:x9 T 141 false none false∧zd T 141 187:=by refine⟨⟨?_,?_,?_⟩,zm T (F:=f141) ?_ ?_⟩<;>kernel_rfl
@[go_sem]theorem fr142:x9 T 142 false none false∧zd T 142 4:=by refine⟨⟨?_,?_,?_⟩,zm T (F:=f142) ?_ ?_⟩<;>kernel_rfl
@[go_sem]theorem fr143:x9 T 143 false none false∧zd T 143 4:=by refine⟨⟨?_,?_,?_⟩,zm T (F:=f143) ?_ ?_⟩<;>kernel_rfl
def zt2:=nv 2 f46
def zt1:=nv 12 f46
def ztr:=nv 26 f46
def ztq:=nv 108 f46
def ztp:=nv 28 f46
def zto:=nv 58 f46
def ztn:=nv 236 f46
def ztm:=nv 30 f46
def ztl:=nv 62 f46
def ztk:=nv 252 f46
def zt0:=nv 506 f46
def ztz:=nv 2028 f46
def zty:=nv 508 f46
def zgg:=nv 2036 f46
def ztx:=nv 4072 f46
def ztw:=nv 65176 f46
def ztv:=nv 130354 f46
def ztu:=nv 260710 f46
def ztt:=nv 1042844 f46
def zts:=nv 16295 f46
def zht:=nv 510 f46
theorem xfj:qq T 46 67 (.seq (zt2) (.seq (.seq (zt1) (.seq (ztr) (.cond (.tmp 18) (.seq (ztq) (.ret)) (.skip)))) (.seq (.seq (ztp) (.seq (zto) (.cond (.tmp 26) (.seq (ztn) (.ret)) (.skip)))) (.seq (ztm) (.seq (ztl) (.seq (.seq (ztk) (.seq (zt0) (.cond (.tmp 49) (.seq (ztz) (.ret)) (.skip)))) (.seq (.seq (zty) (.block 0 (.loop zgg))) (.seq (zht) (.ret))))))))):=zh T (F:=f46) (by kernel_rfl) (by kernel_rfl) (by kernel_rfl)
@[go_sem↓]theorem run46:RR zt2 [oo 3 (.box 34 (.tmp 0)),oo 4 (.box 3 (.tmp 1)),oo 5 (.box 48 (.tmp 2)),oo 6 (oi 0)]∧RR zt1 [oo 15 (oL 34 3),oo 16 (o1 23 15 34),oo 7 (oG 16)]∧RR ztr [oo 17 (oM 7),oo 18 (oC .neq 29 17 0)]∧RR ztq [oo 19 (oM 7),oo 6 (oG 19)]∧RR ztp [oo 20 (oL 3 4),oo 21 (oF 34 3 2),oo 22 (oL 32 21),oo 23 (oN 22 32),oo 24 (.call ⟨.value (.func 137),#[.tmp 20,.const (.int .i64 0),.tmp 23],#[3,3,3]⟩),oo 8 (oG 24)]∧RR zto [oo 25 (oM 8),oo 26 (oC .neq 29 25 0)]∧RR ztn [oo 27 (oM 8),oo 6 (oG 27)]∧RR ztm [oo 28 (oF 34 3 2),oo 29 (oL 32 28),oo 30 (oN 29 32),oo 31 (o1 136 30 3),oo 32 (o1 138 31 209),oo 33 (.makeFunc (.func 139) #[] #[.tmp 4]),oo 34 (o2 129 32 33 22 201),oo 9 (oG 34)]∧RR ztl [oo 35 (.makeFunc (.func 140) #[] #[.tmp 3]),oo 10 (oG 35)]∧RD ztk 46 [oo 36 (oM 9),oo 37 (oN 36 22),oo 38 (oL 48 5),oo 39 (oN 38 48),oo 40 (oB .neq 3 37 39),oo 41 (.call ⟨.value (.func 115),#[.tmp 40,.const (.int .i64 2)],#[4,29]⟩),oo 42 (oL 48 5),oo 43 (oM 10),oo 44 (o2 141 42 43 48 213),oo 45 (o1 114 44 187),oo 46 (.buildSlice 187 2 #[(0,.tmp 41),(1,.tmp 45)]),oo 47 (o1 114 46 187),oo 11 (oG 47)] [(0,2),(1,2),(0,3),(1,3),(0,6),(1,6),(2,6),(3,6),(4,6),(5,6),(0,7),(1,7),(2,7),(3,7),(4,7),(5,7),(6,7)]∧RR zt0 [oo 48 (oM 11),oo 49 (oC .neq 29 48 0)]∧RR ztz [oo 50 (oM 11),oo 6 (oG 50)]∧RR zty [oo 51 (oM 9),oo 52 (oN 51 22),oo 53 (.move (.const (.int .i64 0)))]∧RR ztx [oo 54 (oB .lss 3 53 52)]∧RR ztw [oo 55 (oM 53),oo 56 (oI 22 51 53),oo 57 (oL 28 56),oo 12 (.alloc 3),ow 3 12 55,oo 13 (oG 57)]∧RR ztv [oo 58 (.makeFunc (.func 142) #[] #[.tmp 5,.tmp 12]),oo 14 (oG 58)]∧RR ztu [oo 59 (oL 34 3),oo 60 (oM 13),oo 61 (o2 125 59 60 34 28),oo 62 (o1 124 61 199),oo 63 (oM 14),oo 64 (o2 143 62 63 48 215),oo 65 (.unOp .not 4 (.tmp 64))]∧RR ztt [oo 6 (oi 19)]∧RR zts [oo 66 (oC .add 3 53 1),oo 53 (oM 66)]∧RI zgg (.seq (ztx) (.seq (.cond (.tmp 54) (.skip) (.exit 0)) (.seq (.block 1 (.seq (ztw) (.seq (ztv) (.seq (ztu) (.cond (.tmp 65) (.seq (ztt) (.ret)) (.skip)))))) (zts))))∧z7 T 46 zgg [3,5,51,52,53]∧RR zht [oo 6 (oi 0)]∧zu T 46 [.tmp 6] false:=by refine⟨zz T ?_,zz T ?_,zz T ?_,zz T ?_,zz T ?_,zz T ?_,zz T ?_,zz T ?_,zz T ?_,xt T (id:=9) ?_ ?_,zz T ?_,zz T ?_,zz T ?_,zz T ?_,zz T ?_,zz T ?_,zz T ?_,zz T ?_,zz T ?_,zl T ?_,z8 T ?_,zz T ?_,zf T (F:=f46) ?_ ?_ ?_⟩<;>kernel_rfl
def ztj:=nv 2 f47
def zti:=nv 6 f47
theorem xfi:qq T 47 6 (.seq (ztj) (.seq (zti) (.ret))):=zh T (F:=f47) (by kernel_rfl) (by kernel_rfl) (by kernel_rfl)
@[go_sem↓]theorem run47:RR ztj [oo 2 on]∧RR zti [oo 3 (.buildSlice 48 0 #[]),oo 4 (oM 0),oo 5 (oA 3 4 48),oo 2 (oG 5)]∧zu T 47 [.tmp 2] false:=by refine⟨zz T ?_,zz T ?_,zf T (F:=f47) ?_ ?_ ?_⟩<;>kernel_rfl
@[go_sem]theorem fr210:x9 T 210 true none false∧zd T 210 22:=by refine⟨⟨?_,?_,?_⟩,zm T (F:=f210) ?_ ?_⟩<;>kernel_rfl
def ygg:=nv 2 f138
def ygf:=nv 6 f138
theorem xg5:qq T 138 5 (.seq (ygg) (.seq (ygf) (.ret))):=zh T (F:=f138) (by kernel_rfl) (by kernel_rfl) (by kernel_rfl)
@[go_sem↓]theorem run138:RR ygg [oo 2 on]∧RR ygf [oo 3 (oM 0),oo 4 (.call ⟨.value (.func 210),#[.const (.slice none 0 0),.tmp 3],#[22,209]⟩),oo 2 (oG 4)]∧zu T 138 [.tmp 2] true:=by refine⟨zz T ?_,zz T ?_,zf T (F:=f138) ?_ ?_ ?_⟩<;>kernel_rfl
def yge:=nv 2 f139
def ygd:=nv 6 f139
theorem xg4:qq T 139 8 (.seq (yge) (.seq (ygd) (.ret))):=zh T (F:=f139) (by kernel_rfl) (by kernel_rfl) (by kernel_rfl)
@[go_sem↓]theorem run139:RR yge [oo 3 (.assign (.const (.bool false)))]∧RR ygd [oo 4 (oM 0),oo 5 (oN 4 28),oo 6 (oL 3 1),oo 7 (oB .geq 3 5 6),oo 3 (oG 7)]∧zu T 139 [.tmp 3] false:=by refine⟨zz T ?_,zz T ?_,zf T (F:=f139) ?_ ?_ ?_⟩<;>kernel_rfl
def ygc:=nv 2 f140
def ygb:=nv 6 f140
theorem xg3:qq T 140 31 (.seq (ygc) (.seq (ygb) (.ret))):=zh T (F:=f140) (by kernel_rfl) (by kernel_rfl) (by kernel_rfl)
@[go_sem↓]theorem run140:RR ygc [oo 2 (.box 100 (.tmp 0)),oo 3 (oi 0)]∧RD ygb 140 [oo 4 (oF 100 2 0),oo 5 (oL 3 4),oo 6 (oC .lss 3 5 0),oo 7 (oM 6),of 8 (oF 100 2 0) 7,of 9 (oL 3 8) 7,of 10 (oF 34 1 0) 7,of 11 (oL 22 10) 7,of 12 (oN 11 22) 7,of 13 (oB .geq 3 9 12) 7,oo 14 (.pick (.tmp 7) (.const (.bool true)) (.tmp 13)),oo 15 (oM 14),of 16 (oF 100 2 1) 15,of 17 (oL 3 16) 15,of 18 (oC .lss 3 17 0) 15,oo 19 (.pick (.tmp 15) (.const (.bool true)) (.tmp 18)),oo 20 (oM 19),of 21 (oF 100 2 1) 20,of 22 (oL 3 21) 20,of 23 (oF 34 1 0) 20,of 24 (oL 22 23) 20,of 25 (.indexAddr 22 (.tmp 24) (.const (.int .i64 0))) 20,of 26 (oL 28 25) 20,of 27 (oN 26 28) 20,of 28 (oB .geq 3 22 27) 20,oo 29 (.pick (.tmp 20) (.const (.bool true)) (.tmp 28)),oo 30 (.call ⟨.value (.func 115),#[.tmp 29,.const (.int .i64 10)],#[4,29]⟩),oo 3 (oG 30)] [(4,6),(5,6),(4,7),(5,7),(4,8),(5,8),(17,19),(18,19),(17,20),(18,20),(17,21),(18,21),(17,22),(18,22),(17,23),(18,23)]∧zu T 140 [.tmp 3] false:=by refine⟨zz T ?_,xt T (id:=1) ?_ ?_,zf T (F:=f140) ?_ ?_ ?_⟩<;>kernel_rfl
def yga:=nv 2 f141
def yf9:=nv 6 f141
def yf8:=nv 28 f141
def zkl:=nv 116 f141
def yf7:=nv 232 f141
def yf6:=nv 3736 f141
def yf5:=nv 3737 f141
def yf4:=nv 935 f141
def zmu:=nv 30 f141
theorem xg2:qq T 141 22 (.seq (yga) (.seq (yf9) (.seq (.seq (yf8) (.block 0 (.loop zkl))) (.seq (zmu) (.ret))))):=zh T (F:=f141) (by kernel_rfl) (by kernel_rfl) (by kernel_rfl)
@[go_sem↓]theorem run141:RR yga [oo 4 on]∧RR yf9 [oo 5 on]∧RR yf8 [oo 8 (oM 0),oo 9 (oN 8 48),oo 10 (.move (.const (.int .i64 0)))]∧RR yf7 [oo 11 (oB .lss 3 10 9)]∧RR yf6 [oo 12 (oI 48 8 10),oo 13 (oL 100 12),oo 7 (.alloc 100),ow 100 7 13]∧RR yf5 [oo 14 (oM 5),oo 15 (oM 1),oo 16 (oL 100 7),oo 17 (.call ⟨.value (.tmp 15),#[.tmp 16],#[100]⟩),oo 18 (oS 187 17),oo 19 (oA 14 18 187),oo 5 (oG 19)]∧RR yf4 [oo 20 (oC .add 3 10 1),oo 10 (oM 20)]∧RI zkl (.seq (yf7) (.seq (.cond (.tmp 11) (.skip) (.exit 0)) (.seq (.block 1 (.seq (yf6) (yf5))) (yf4))))∧z7 T 141 zkl [1,5,8,9,10]∧RR zmu [oo 21 (oM 5),oo 4 (oG 21)]∧zu T 141 [.tmp 4] false:=by refine⟨zz T ?_,zz T ?_,zz T ?_,zz T ?_,zz T ?_,zz T ?_,zz T ?_,zl T ?_,z8 T ?_,zz T ?_,zf T (F:=f141) ?_ ?_ ?_⟩<;>kernel_rfl
def yf3:=nv 2 f142
def yf2:=nv 6 f142
theorem xg1:qq T 142 11 (.seq (yf3) (.seq (yf2) (.ret))):=zh T (F:=f142) (by kernel_rfl) (by kernel_rfl) (by kernel_rfl)
@[go_sem↓]theorem run142:RR yf3 [oo 3 (.box 100 (.tmp 0)),oo 4 (.assign (.const (.bool false)))]∧RD yf2 142 [oo 5 (oL 100 3),oo 6 (oL 48 1),oo 7 (oL 3 2),oo 8 (oI 48 6 7),oo 9 (oL 100 8),oo 10 (oB .eql 100 5 9),oo 4 (oG 10)] [(0,1),(0,2),(1,2),(0,3),(0,4)]∧zu T 142 [.tmp 4] false:=by refine⟨zz T ?_,xt T (id:=1) ?_ ?_,zf T (F:=f142) ?_ ?_ ?_⟩<;>kernel_rfl
@[go_sem]theorem fr211:x9 T 211 false none false∧zd T 211 3:=by refine⟨⟨?_,?_,?_⟩,zm T (F:=f211) ?_ ?_⟩<;>kernel_rfl
def yf1:=nv 2 f143
def yf0:=nv 6 f143
theorem xg0:qq T 143 9 (.seq (yf1) (.seq (yf0) (.ret))):=zh T (F:=f143) (by kernel_rfl) (by kernel_rfl) (by kernel_rfl)
@[go_sem↓]theorem run143:RR yf1 [oo 4 (.assign (.const (.bool false)))]∧RR yf0 [oo 5 (oM 0),oo 6 (oM 1),oo 7 (o2 211 5 6 48 215),oo 8 (oC .geq 3 7 0),oo 4 (oG 8)]∧zu T 143 [.tmp 4] false:=by refine⟨zz T ?_,zz T ?_,zf T (F:=f143) ?_ ?_ ?_⟩<;>kernel_rfl
def zx5:=nv 2 f210
def zx4:=nv 12 f210
def zgy:=nv 52 f210
def zf7:=nv 53 f210
def zx3:=nv 52 f210
def zx2:=nv 106 f210
def zx1:=nv 14 f210
theorem xf1:qq T 210 13 (.seq (zx5) (.seq (.seq (zx4) (.block 0 (.rangeFunc (.tmp 6) #[7] zgy zf7))) (.seq (zx1) (.ret)))):=zh T (F:=f210) (by kernel_rfl) (by kernel_rfl) (by kernel_rfl)
@[go_sem↓]theorem run210:RR zx5 [oo 2 (.box 22 (.tmp 0)),oo 4 on]∧RR zx4 [oo 6 (oM 1)]∧RR zx3 [oo 5 (oG 7)]∧RR zx2 [oo 8 (oL 22 2),oo 9 (oM 5),oo 10 (oS 22 9),oo 11 (oA 8 10 22),ow 22 2 11]∧RI zgy (zx3)∧RI zf7 (.block 1 (zx2))∧RR zx1 [oo 12 (oL 22 2),oo 4 (oG 12)]∧zu T 210 [.tmp 4] true:=by refine⟨zz T ?_,zz T ?_,zz T ?_,zz T ?_,zl T ?_,zl T ?_,zz T ?_,zf T (F:=f210) ?_ ?_ ?_⟩<;>kernel_rfl
def zx0:=nv 2 f211
def zxz:=nv 12 f211
def zj2:=nv 52 f211
def zxy:=nv 104 f211
def zxx:=nv 1688 f211
def zxw:=nv 3378 f211
def zxv:=nv 13516 f211
def zxu:=nv 423 f211
def zl8:=nv 14 f211
theorem xf0:qq T 211 19 (.seq (zx0) (.seq (.seq (zxz) (.block 0 (.loop zj2))) (.seq (zl8) (.ret)))):=zh T (F:=f211) (by kernel_rfl) (by kernel_rfl) (by kernel_rfl)
@[go_sem↓]theorem run211:RR zx0 [oo 4 (oi 0)]∧RR zxz [oo 6 (oM 0),oo 7 (oN 6 48),oo 8 (.move (.const (.int .i64 0)))]∧RR zxy [oo 9 (oB .lss 3 8 7)]∧RR zxx [oo 10 (oM 8),oo 5 (oG 10)]∧RR zxw [oo 11 (oM 1),oo 12 (oM 0),oo 13 (oM 5),oo 14 (oI 48 12 13),oo 15 (oL 100 14),oo 16 (.call ⟨.value (.tmp 11),#[.tmp 15],#[100]⟩)]∧RR zxv [oo 17 (oM 5),oo 4 (oG 17)]∧RR zxu [oo 18 (oC .add 3 8 1),oo 8 (oM 18)]∧RI zj2 (.seq (zxy) (.seq (.cond (.tmp 9) (.skip) (.exit 0)) (.seq (.block 1 (.seq (zxx) (.seq (zxw) (.cond (.tmp 16) (.seq (zxv) (.ret)) (.skip))))) (zxu))))∧z7 T 211 zj2 [0,1,7,8]∧RR zl8 [oo 4 (oi (-1))]∧zu T 211 [.tmp 4] false:=by refine⟨zz T ?_,zz T ?_,zz T ?_,zz T ?_,zz T ?_,zz T ?_,zz T ?_,zl T ?_,z8 T ?_,zz T ?_,zf T (F:=f211) ?_ ?_ ?_⟩<;>kernel_rfl
@[go_sem]theorem fr50:x9 T 50 false none false∧yx T 50 34 29 []:=by refine⟨⟨?_,?_,?_⟩,wa T (F:=f50) ?_ ?_⟩<;>kernel_rfl
@[go_sem]theorem fr147:x9 T 147 true none false∧zd T 147 28:=by refine⟨⟨?_,?_,?_⟩,zm T (F:=f147) ?_ ?_⟩<;>kernel_rfl
@[go_sem]theorem fr148:x9 T 148 true none false∧zd T 148 72:=by refine⟨⟨?_,?_,?_⟩,zm T (F:=f148) ?_ ?_⟩<;>kernel_rfl
def zth:=nv 2 f50
def ztg:=nv 12 f50
def zs7:=nv 26 f50
def zs6:=nv 108 f50
def zs5:=nv 28 f50
def zs4:=nv 58 f50
def zs3:=nv 236 f50
def zs2:=nv 30 f50
def zs1:=nv 124 f50
def zgf:=nv 500 f50
def zs0:=nv 1000 f50
def ztf:=nv 16024 f50
def zte:=nv 16025 f50
def ztd:=nv 4007 f50
def zhs:=nv 252 f50
def zc7:=nv 1012 f50
def ztc:=nv 2024 f50
def ztb:=nv 32408 f50
def zta:=nv 64818 f50
def zs9:=nv 64819 f50
def zs8:=nv 8103 f50
def zds:=nv 254 f50
theorem yn6:qq T 50 105 (.seq (zth) (.seq (.seq (ztg) (.seq (zs7) (.cond (.tmp 18) (.seq (zs6) (.ret)) (.skip)))) (.seq (.seq (zs5) (.seq (zs4) (.cond (.tmp 51) (.seq (zs3) (.ret)) (.skip)))) (.seq (zs2) (.seq (.seq (zs1) (.block 0 (.loop zgf))) (.seq (.seq (zhs) (.block 2 (.loop zc7))) (.seq (zds) (.ret)))))))):=zh T (F:=f50) (by kernel_rfl) (by kernel_rfl) (by kernel_rfl)
@[go_sem↓]theorem run50:RR zth [oo 3 (.box 34 (.tmp 0)),oo 6 (.alloc 34),oo 7 (oi 0)]∧RR ztg [oo 15 (oL 34 3),oo 16 (o1 23 15 34),oo 8 (oG 16)]∧RR zs7 [oo 17 (oM 8),oo 18 (oC .neq 29 17 0)]∧RR zs6 [oo 19 (.build 34 #[]),oo 20 (oM 8),ow 34 6 19,oo 7 (oG 20)]∧RD zs5 50 [oo 21 (oM 1),oo 22 (oN 21 28),oo 23 (oF 34 3 0),oo 24 (oL 22 23),oo 25 (oN 24 22),oo 26 (oB .neq 3 22 25),oo 27 (.call ⟨.value (.func 115),#[.tmp 26,.const (.int .i64 2)],#[4,29]⟩),oo 28 (oM 1),oo 29 (.call ⟨.value (.func 116),#[.tmp 28,.func 117],#[28,189]⟩),oo 30 (o1 114 29 187),oo 31 (oM 2),oo 32 (oN 31 72),oo 33 (oF 34 3 2),oo 34 (oL 32 33),oo 35 (oN 34 32),oo 36 (oB .neq 3 32 35),oo 37 (.call ⟨.value (.func 115),#[.tmp 36,.const (.int .i64 2)],#[4,29]⟩),oo 38 (oM 2),oo 39 (.call ⟨.value (.func 145),#[.tmp 38,.func 146],#[72,219]⟩),oo 40 (o1 114 39 187),oo 41 (oF 34 3 0),oo 42 (oL 22 41),oo 43 (.indexAddr 22 (.tmp 42) (.const (.int .i64 0))),oo 44 (oL 28 43),oo 45 (oN 44 28),oo 46 (oC .geq 3 45 8),oo 47 (.call ⟨.value (.func 115),#[.tmp 46,.const (.int .i64 5)],#[4,29]⟩),oo 48 (.buildSlice 187 5 #[(0,.tmp 27),(1,.tmp 30),(2,.tmp 37),(3,.tmp 40),(4,.tmp 47)]),oo 49 (o1 114 48 187),oo 9 (oG 49)] [(0,2),(1,2),(0,3),(1,3),(0,4),(1,4),(0,7),(1,7),(2,7),(3,7),(4,7),(5,7),(6,7),(0,10),(1,10),(2,10),(3,10),(4,10),(5,10),(6,10),(7,10),(8,10),(9,10),(0,11),(1,11),(2,11),(3,11),(4,11),(5,11),(6,11),(7,11),(8,11),(9,11),(0,12),(1,12),(2,12),(3,12),(4,12),(5,12),(6,12),(7,12),(8,12),(9,12),(10,12),(11,12),(0,13),(1,13),(2,13),(3,13),(4,13),(5,13),(6,13),(7,13),(8,13),(9,13),(10,13),(11,13),(0,14),(1,14),(2,14),(3,14),(4,14),(5,14),(6,14),(7,14),(8,14),(9,14),(10,14),(11,14),(0,15),(1,15),(2,15),(3,15),(4,15),(5,15),(6,15),(7,15),(8,15),(9,15),(0,17),(1,17),(2,17),(3,17),(4,17),(5,17),(6,17),(7,17),(8,17),(9,17),(10,17),(11,17),(12,17),(13,17),(14,17),(15,17),(16,17),(0,20),(1,20),(2,20),(3,20),(4,20),(5,20),(6,20),(7,20),(8,20),(9,20),(10,20),(11,20),(12,20),(13,20),(14,20),(15,20),(16,20),(17,20),(18,20),(19,20),(0,21),(1,21),(2,21),(3,21),(4,21),(5,21),(6,21),(7,21),(8,21),(9,21),(10,21),(11,21),(12,21),(13,21),(14,21),(15,21),(16,21),(17,21),(18,21),(19,21),(0,22),(1,22),(2,22),(3,22),(4,22),(5,22),(6,22),(7,22),(8,22),(9,22),(10,22),(11,22),(12,22),(13,22),(14,22),(15,22),(16,22),(17,22),(18,22),(19,22),(0,23),(1,23),(2,23),(3,23),(4,23),(5,23),(6,23),(7,23),(8,23),(9,23),(10,23),(11,23),(12,23),(13,23),(14,23),(15,23),(16,23),(17,23),(18,23),(19,23),(0,24),(1,24),(2,24),(3,24),(4,24),(5,24),(6,24),(7,24),(8,24),(9,24),(10,24),(11,24),(12,24),(13,24),(14,24),(15,24),(16,24),(17,24),(18,24),(19,24),(0,25),(1,25),(2,25),(3,25),(4,25),(5,25),(6,25),(7,25),(8,25),(9,25),(10,25),(11,25),(12,25),(13,25),(14,25),(15,25),(16,25),(17,25),(18,25),(19,25)]∧RR zs4 [oo 50 (oM 9),oo 51 (oC .neq 29 50 0)]∧RR zs3 [oo 52 (.build 34 #[]),oo 53 (oM 9),ow 34 6 52,oo 7 (oG 53)]∧RR zs2 [oo 54 (oF 34 3 1),oo 55 (oL 3 54),oo 56 (.build 34 #[(1,.tmp 55)]),oo 10 (.alloc 34),ow 34 10 56]∧RR zs1 [oo 57 (oF 34 3 0),oo 58 (oL 22 57),oo 59 (oN 58 22),oo 60 (.move (.const (.int .i64 0)))]∧RR zs0 [oo 61 (oB .lss 3 60 59)]∧RR ztf [oo 62 (oM 60),oo 63 (oI 22 58 60),oo 64 (oL 28 63),oo 11 (oG 62),oo 12 (oG 64)]∧RD zte 50 [oo 65 (oF 34 10 0),oo 66 (oL 22 65),oo 67 (oM 12),oo 68 (o1 147 67 28),oo 69 (oM 1),oo 70 (oM 11),oo 71 (oI 28 69 70),oo 72 (oL 3 71),oo 73 (oS 28 72),oo 74 (oA 68 73 28),oo 75 (oS 22 74),oo 76 (oA 66 75 22),oo 77 (oF 34 10 0),ow 22 77 76] [(0,2),(1,2),(0,3),(1,3),(0,4),(1,4),(2,4),(3,4),(0,5),(1,5),(2,5),(3,5),(4,5),(0,6),(1,6),(2,6),(3,6),(0,7),(1,7),(2,7),(3,7),(0,8),(1,8),(2,8),(3,8),(0,9),(1,9),(0,10),(1,10)]∧RR ztd [oo 78 (oC .add 3 60 1),oo 60 (oM 78)]∧RI zgf (.seq (zs0) (.seq (.cond (.tmp 61) (.skip) (.exit 0)) (.seq (.block 1 (.seq (ztf) (zte))) (ztd))))∧z7 T 50 zgf [1,2,3,6,10,58,59,60]∧RR zhs [oo 79 (oF 34 3 2),oo 80 (oL 32 79),oo 81 (oN 80 32),oo 82 (.move (.const (.int .i64 0)))]∧RR ztc [oo 83 (oB .lss 3 82 81)]∧RR ztb [oo 84 (oM 82),oo 85 (oI 32 80 82),oo 86 (oL 180 85),oo 14 (.alloc 180),oo 13 (oG 84),ow 180 14 86]∧RD zta 50 [oo 87 (oF 180 14 2),oo 88 (oL 72 87),oo 89 (o1 148 88 72),oo 90 (oM 2),oo 91 (oM 13),oo 92 (oI 72 90 91),oo 93 (oL 142 92),oo 94 (oS 72 93),oo 95 (oA 89 94 72),oo 96 (oF 180 14 2),ow 72 96 95] [(0,3),(1,3),(2,3),(0,4),(1,4),(2,4),(3,4),(0,5),(1,5),(2,5),(0,6),(1,6),(2,6),(0,7),(1,7),(2,7)]∧RR zs9 [oo 97 (oF 34 10 2),oo 98 (oL 32 97),oo 99 (oL 180 14),oo 100 (oS 32 99),oo 101 (oA 98 100 32),oo 102 (oF 34 10 2),ow 32 102 101]∧RR zs8 [oo 103 (oC .add 3 82 1),oo 82 (oM 103)]∧RI zc7 (.seq (ztc) (.seq (.cond (.tmp 83) (.skip) (.exit 2)) (.seq (.block 3 (.seq (ztb) (.seq (zta) (zs9)))) (zs8))))∧z7 T 50 zc7 [2,6,10,80,81,82]∧RR zds [oo 104 (oL 34 10),ow 34 6 104,oo 7 (oi 0)]∧zu T 50 [.cell 6 34,.tmp 7] false:=by refine⟨zz T ?_,zz T ?_,zz T ?_,zz T ?_,xt T (id:=4) ?_ ?_,zz T ?_,zz T ?_,zz T ?_,zz T ?_,zz T ?_,zz T ?_,xt T (id:=11) ?_ ?_,zz T ?_,zl T ?_,z8 T ?_,zz T ?_,zz T ?_,zz T ?_,xt T (id:=16) ?_ ?_,zz T ?_,zz T ?_,zl T ?_,z8 T ?_,zz T ?_,zf T (F:=f50) ?_ ?_ ?_⟩<;>kernel_rfl
@[go_sem]theorem fr96:x9 T 96 false none false∧zd T 96 4:=by refine⟨⟨?_,?_,?_⟩,zm T (F:=f96) ?_ ?_⟩<;>kernel_rfl
@[go_sem]theorem fr54:x9 T 54 false none false∧zd T 54 25:=by refine⟨⟨?_,?_,?_⟩,zm T (F:=f54) ?_ ?_⟩<;>kernel_rfl
@[go_sem]theorem fr97:x9 T 97 false none false∧zd T 97 23:=by refine⟨⟨?_,?_,?_⟩,zm T (F:=f97) ?_ ?_⟩<;>kernel_rfl
def zsz:=nv 2 f54
def zsy:=nv 6 f54
theorem xfh:qq T 54 11 (.seq (zsz) (.seq (zsy) (.ret))):=zh T (F:=f54) (by kernel_rfl) (by kernel_rfl) (by kernel_rfl)
@[go_sem↓]theorem run54:RR zsz [oo 1 (.box 34 (.tmp 0)),oo 2 (.alloc 25)]∧RD zsy 54 [oo 3 (oF 34 1 0),oo 4 (oL 22 3),oo 5 (oF 34 1 1),oo 6 (oL 3 5),oo 7 (oF 34 1 2),oo 8 (oL 32 7),oo 9 (o1 97 8 32),oo 10 (.build 25 #[(0,.tmp 4),(1,.tmp 6),(2,.tmp 9)]),ow 25 2 10] [(0,2),(1,2),(0,3),(1,3),(0,4),(1,4),(2,4),(3,4),(0,5),(1,5),(2,5),(3,5),(0,6),(1,6),(2,6),(3,6)]∧zu T 54 [.cell 2 25] false:=by refine⟨zz T ?_,xt T (id:=1) ?_ ?_,zf T (F:=f54) ?_ ?_ ?_⟩<;>kernel_rfl
@[go_sem]theorem fr87:x9 T 87 false none false∧zd T 87 142:=by refine⟨⟨?_,?_,?_⟩,zm T (F:=f87) ?_ ?_⟩<;>kernel_rfl
def zsx:=nv 2 f87
def zsw:=nv 6 f87
theorem xfg:qq T 87 8 (.seq (zsx) (.seq (zsw) (.ret))):=zh T (F:=f87) (by kernel_rfl) (by kernel_rfl) (by kernel_rfl)
@[go_sem↓]theorem run87:RR zsx [oo 4 (.alloc 142)]∧RR zsw [oo 5 (oM 0),oo 6 (oM 1),oo 7 (.build 142 #[(0,.tmp 5),(1,.tmp 6)]),ow 142 4 7]∧zu T 87 [.cell 4 142] false:=by refine⟨zz T ?_,zz T ?_,zf T (F:=f87) ?_ ?_ ?_⟩<;>kernel_rfl
def zrt:=nv 2 f96
def zrr:=nv 12 f96
def zrq:=nv 52 f96
def zrp:=nv 28 f96
def zjs:=nv 116 f96
def zro:=nv 464 f96
def zrm:=nv 1864 f96
def zrl:=nv 7460 f96
def zrn:=nv 467 f96
def zlw:=nv 30 f96
theorem xfb:qq T 96 55 (.seq (zrt) (.seq (.seq (zrr) (.cond (.tmp 10) (.seq (zrq) (.ret)) (.skip))) (.seq (.seq (zrp) (.block 0 (.loop zjs))) (.seq (zlw) (.ret))))):=zh T (F:=f96) (by kernel_rfl) (by kernel_rfl) (by kernel_rfl)
@[go_sem↓]theorem run96:RR zrt [oo 4 (.assign (.const (.bool false)))]∧RR zrr [oo 6 (oM 0),oo 7 (oN 6 23),oo 8 (oM 1),oo 9 (oN 8 23),oo 10 (oB .neq 3 7 9)]∧RR zrq [oo 4 (.assign (.const (.bool false)))]∧RR zrp [oo 5 (oi 0)]∧RR zro [oo 11 (oM 5),oo 12 (oM 0),oo 13 (oN 12 23),oo 14 (oB .lss 3 11 13)]∧RD zrm 96 [oo 17 (oM 0),oo 18 (oM 5),oo 19 (oI 23 17 18),oo 20 (oF 140 19 0),oo 21 (oL 9 20),oo 22 (oM 1),oo 23 (oM 5),oo 24 (oI 23 22 23),oo 25 (oF 140 24 0),oo 26 (oL 9 25),oo 27 (oB .neq 9 21 26),oo 28 (oM 27),of 29 (oM 0) 28,of 30 (oM 5) 28,of 31 (oI 23 29 30) 28,of 32 (oF 140 31 1) 28,of 33 (oL 3 32) 28,of 34 (oM 1) 28,of 35 (oM 5) 28,of 36 (oI 23 34 35) 28,of 37 (oF 140 36 1) 28,of 38 (oL 3 37) 28,of 39 (oB .neq 3 33 38) 28,oo 40 (.pick (.tmp 28) (.const (.bool true)) (.tmp 39)),oo 41 (oM 40),of 42 (oM 0) 41,of 43 (oM 5) 41,of 44 (oI 23 42 43) 41,of 45 (oF 140 44 2) 41,of 46 (oL 72 45) 41,of 47 (oM 1) 41,of 48 (oM 5) 41,of 49 (oI 23 47 48) 41,of 50 (oF 140 49 2) 41,of 51 (oL 72 50) 41,of 52 (o2 127 46 51 72 72) 41,of 53 (.unOp .not 4 (.tmp 52)) 41,oo 54 (.pick (.tmp 41) (.const (.bool true)) (.tmp 53))] [(0,1),(0,5),(1,5),(2,5),(3,5),(4,5),(0,6),(1,6),(2,6),(3,6),(4,6),(5,6),(0,7),(1,7),(2,7),(3,7),(4,7),(0,8),(1,8),(2,8),(3,8),(4,8),(0,9),(1,9),(2,9),(3,9),(4,9),(12,13),(12,17),(13,17),(14,17),(15,17),(16,17),(12,18),(13,18),(14,18),(15,18),(16,18),(17,18),(12,19),(13,19),(14,19),(15,19),(16,19),(12,20),(13,20),(14,20),(15,20),(16,20),(12,21),(13,21),(14,21),(15,21),(16,21),(25,26),(25,30),(26,30),(27,30),(28,30),(29,30),(25,31),(26,31),(27,31),(28,31),(29,31),(30,31),(25,32),(26,32),(27,32),(28,32),(29,32),(25,33),(26,33),(27,33),(28,33),(29,33),(25,34),(26,34),(27,34),(28,34),(29,34)]∧RR zrl [oo 4 (.assign (.const (.bool false)))]∧RR zrn [oo 15 (oM 5),oo 16 (oC .add 3 15 1),oo 5 (oG 16)]∧RI zjs (.seq (.seq (zro) (.cond (.tmp 14) (.skip) (.exit 0))) (.seq (.block 1 (.seq (zrm) (.cond (.tmp 54) (.seq (zrl) (.ret)) (.skip)))) (zrn)))∧z7 T 96 zjs [0,1,5]∧RR zlw [oo 4 (.assign (.const (.bool true)))]∧zu T 96 [.tmp 4] false:=by refine⟨zz T ?_,zz T ?_,zz T ?_,zz T ?_,zz T ?_,xt T (id:=6) ?_ ?_,zz T ?_,zz T ?_,zl T ?_,z8 T ?_,zz T ?_,zf T (F:=f96) ?_ ?_ ?_⟩<;>kernel_rfl
def zrk:=nv 2 f97
def zrj:=nv 6 f97
def zri:=nv 28 f97
def zge:=nv 116 f97
def zrh:=nv 232 f97
def zrg:=nv 3736 f97
def zrf:=nv 3737 f97
def zre:=nv 935 f97
def zhr:=nv 30 f97
theorem yn4:qq T 97 18 (.seq (zrk) (.seq (zrj) (.seq (.seq (zri) (.block 0 (.loop zge))) (.seq (zhr) (.ret))))):=zh T (F:=f97) (by kernel_rfl) (by kernel_rfl) (by kernel_rfl)
@[go_sem↓]theorem run97:RR zrk [oo 2 on]∧RR zrj [oo 3 on]∧RR zri [oo 6 (oM 0),oo 7 (oN 6 32),oo 8 (.move (.const (.int .i64 0)))]∧RR zrh [oo 9 (oB .lss 3 8 7)]∧RR zrg [oo 10 (oI 32 6 8),oo 11 (oL 180 10),oo 5 (.alloc 180),ow 180 5 11]∧RR zrf [oo 12 (oM 3),oo 13 (oL 180 5),oo 14 (oS 23 13),oo 15 (oA 12 14 23),oo 3 (oG 15)]∧RR zre [oo 16 (oC .add 3 8 1),oo 8 (oM 16)]∧RI zge (.seq (zrh) (.seq (.cond (.tmp 9) (.skip) (.exit 0)) (.seq (.block 1 (.seq (zrg) (zrf))) (zre))))∧z7 T 97 zge [3,6,7,8]∧RR zhr [oo 17 (oM 3),oo 2 (oG 17)]∧zu T 97 [.tmp 2] false:=by refine⟨zz T ?_,zz T ?_,zz T ?_,zz T ?_,zz T ?_,zz T ?_,zz T ?_,zl T ?_,z8 T ?_,zz T ?_,zf T (F:=f97) ?_ ?_ ?_⟩<;>kernel_rfl
def yfq:=nv 2 f147
def yfp:=nv 12 f147
def yfo:=nv 52 f147
def yfn:=nv 14 f147
theorem xgy:qq T 147 8 (.seq (yfq) (.seq (.seq (yfp) (.cond (.tmp 4) (.seq (yfo) (.ret)) (.skip))) (.seq (yfn) (.ret)))):=zh T (F:=f147) (by kernel_rfl) (by kernel_rfl) (by kernel_rfl)
@[go_sem↓]theorem run147:RR yfq [oo 2 on]∧RR yfp [oo 3 (oM 0),oo 4 (.binOp .eql 28 (.tmp 3) (.const (.slice none 0 0)) 28)]∧RR yfo [oo 2 on]∧RR yfn [oo 5 (.buildSlice 28 0 #[]),oo 6 (oM 0),oo 7 (oA 5 6 28),oo 2 (oG 7)]∧zu T 147 [.tmp 2] true:=by refine⟨zz T ?_,zz T ?_,zz T ?_,zz T ?_,zf T (F:=f147) ?_ ?_ ?_⟩<;>kernel_rfl
def yfm:=nv 2 f148
def yfl:=nv 12 f148
def yfk:=nv 52 f148
def yfj:=nv 14 f148
theorem xgx:qq T 148 8 (.seq (yfm) (.seq (.seq (yfl) (.cond (.tmp 4) (.seq (yfk) (.ret)) (.skip))) (.seq (yfj) (.ret)))):=zh T (F:=f148) (by kernel_rfl) (by kernel_rfl) (by kernel_rfl)
@[go_sem↓]theorem run148:RR yfm [oo 2 on]∧RR yfl [oo 3 (oM 0),oo 4 (.binOp .eql 72 (.tmp 3) (.const (.slice none 0 0)) 72)]∧RR yfk [oo 2 on]∧RR yfj [oo 5 (.buildSlice 72 0 #[]),oo 6 (oM 0),oo 7 (oA 5 6 72),oo 2 (oG 7)]∧zu T 148 [.tmp 2] true:=by refine⟨zz T ?_,zz T ?_,zz T ?_,zz T ?_,zf T (F:=f148) ?_ ?_ ?_⟩<;>kernel_rfl
@[go_sem]theorem fr92:x9 T 92 false none false∧yx T 92 9 29 []:=by refine⟨⟨?_,?_,?_⟩,wa T (F:=f92) ?_ ?_⟩<;>kernel_rfl
@[go_sem]theorem fr93:x9 T 93 false none false∧yx T 93 32 3 [29]:=by refine⟨⟨?_,?_,?_⟩,wa T (F:=f93) ?_ ?_⟩<;>kernel_rfl
@[go_sem]theorem fr14:x9 T 14 false none false∧zd T 14 4:=by refine⟨⟨?_,?_,?_⟩,zm T (F:=f14) ?_ ?_⟩<;>kernel_rfl
@[go_sem]theorem fr98:x9 T 98 false none false∧zd T 98 4:=by refine⟨⟨?_,?_,?_⟩,zm T (F:=f98) ?_ ?_⟩<;>kernel_rfl
@[go_sem]theorem fr99:x9 T 99 false none false∧zd T 99 4:=by refine⟨⟨?_,?_,?_⟩,zm T (F:=f99) ?_ ?_⟩<;>kernel_rfl
@[go_sem]theorem fr100:x9 T 100 false none false∧zd T 100 3:=by refine⟨⟨?_,?_,?_⟩,zm T (F:=f100) ?_ ?_⟩<;>kernel_rfl
def yfb:=nv 2 f14
def yfa:=nv 12 f14
def ye0:=nv 52 f14
def yey:=nv 14 f14
def yeo:=nv 30 f14
def yem:=nv 62 f14
def yef:=nv 126 f14
def yed:=nv 508 f14
def yd7:=nv 2036 f14
def yd3:=nv 510 f14
def ye9:=nv 1022 f14
def ye8:=nv 2046 f14
def ye7:=nv 4094 f14
def ye6:=nv 16380 f14
def zki:=nv 65524 f14
def ye5:=nv 131048 f14
def ye4:=nv 1048396 f14
def ye3:=nv 524199 f14
def r14_17:=nv 32764 f14
def b14_1:=nv 131060 f14
def ye2:=nv 262120 f14
def ye1:=nv 2096972 f14
def yez:=nv 1048487 f14
def r14_21:=nv 32766 f14
def r14_22:=nv 131068 f14
def r14_23:=nv 524276 f14
def r14_24:=nv 131070 f14
def r14_25:=nv 524284 f14
def zmr:=nv 1048570 f14
def r14_27:=nv 524286 f14
def r14_28:=nv 1048574 f14
def r14_29:=nv 4194300 f14
def b14_2:=nv 16777204 f14
def yex:=nv 33554408 f14
def yew:=nv 536870552 f14
def yev:=nv 1073741106 f14
def yeu:=nv 4294964428 f14
def zkh:=nv 17179857716 f14
def yet:=nv 34359715432 f14
def yes:=nv 549755446936 f14
def yer:=nv 1099510893874 f14
def yeq:=nv 2199021787750 f14
def yep:=nv 137438861735 f14
def r14_39:=nv 4294964430 f14
def r14_40:=nv 8589928862 f14
def r14_41:=nv 17179857726 f14
def r14_42:=nv 68719430908 f14
def r14_43:=nv 274877723636 f14
def r14_44:=nv 137438861820 f14
def zmq:=nv 274877723642 f14
def r14_46:=nv 274877723644 f14
def r14_47:=nv 274877723646 f14
def r14_48:=nv 1099510894588 f14
def b14_4:=nv 4398043578356 f14
def yen:=nv 8796087156712 f14
def yel:=nv 140737394507416 f14
def yek:=nv 140737394507417 f14
def yej:=nv 35184348626855 f14
def r14_53:=nv 1099510894590 f14
def r14_54:=nv 4398043578364 f14
def r14_55:=nv 8796087156730 f14
def r14_56:=nv 35184348626924 f14
def b14_5:=nv 140737394507700 f14
def yei:=nv 281474789015400 f14
def yeh:=nv 4503596624246424 f14
def yeg:=nv 4503596624246425 f14
def yee:=nv 1125899156061607 f14
def r14_61:=nv 35184348626926 f14
def r14_62:=nv 140737394507708 f14
def ze3:=nv 134217639 f14
def r14_64:=nv 8388604 f14
def r14_65:=nv 33554420 f14
def r14_66:=nv 8388606 f14
def r14_67:=nv 16777214 f14
def r14_68:=nv 67108860 f14
def r14_69:=nv 268435444 f14
def r14_70:=nv 134217724 f14
def r14_71:=nv 536870900 f14
def r14_72:=nv 268435452 f14
def b14_6:=nv 1073741812 f14
def yec:=nv 2147483624 f14
def yeb:=nv 34359738008 f14
def yea:=nv 68719476018 f14
def yd9:=nv 274877904076 f14
def yd8:=nv 8589934503 f14
def r14_78:=nv 536870908 f14
def r14_79:=nv 2147483636 f14
def r14_80:=nv 1073741820 f14
def r14_81:=nv 4294967284 f14
def r14_82:=nv 2147483644 f14
def r14_83:=nv 8589934580 f14
def r14_84:=nv 34359738324 f14
def b14_7:=nv 137438953300 f14
def yd6:=nv 274877906600 f14
def yd5:=nv 2199023252812 f14
def yd4:=nv 1099511626407 f14
def r14_88:=nv 34359738326 f14
def r14_89:=nv 68719476654 f14
def r14_90:=nv 2147483646 f14
theorem zop:qq T 14 435 (.seq (yfb) (.seq (.seq (yfa) (.cond (.tmp 53) (.seq (ye0) (.ret)) (.skip))) (.seq (yey) (.seq (yeo) (.seq (yem) (.seq (yef) (.seq (.seq (yed) (.cond (.tmp 107) (.seq (yd7) (.ret)) (.skip))) (.seq (yd3) (.seq (ye9) (.seq (ye8) (.seq (ye7) (.seq (.seq (ye6) (.block 0 (.loop zki))) (.seq (.seq (r14_17) (.block 2 (.loop b14_1))) (.seq (r14_21) (.seq (.seq (r14_22) (.cond (.tmp 157) (.seq (r14_23) (.ret)) (.skip))) (.seq (r14_24) (.seq (.seq (r14_25) (.cond (.tmp 160) (zmr) (.skip))) (.seq (r14_27) (.seq (r14_28) (.seq (.seq (r14_29) (.block 4 (.loop b14_2))) (.seq (.seq (r14_64) (.cond (.tmp 305) (.seq (r14_65) (.ret)) (.skip))) (.seq (r14_66) (.seq (r14_67) (.seq (.seq (r14_68) (.cond (.tmp 335) (.seq (r14_69) (.ret)) (.skip))) (.seq (.seq (r14_70) (.cond (.tmp 337) (.seq (r14_71) (.ret)) (.skip))) (.seq (.seq (r14_72) (.block 12 (.loop b14_6))) (.seq (.seq (r14_78) (.cond (.tmp 383) (.seq (r14_79) (.ret)) (.skip))) (.seq (.seq (r14_80) (.cond (.tmp 396) (.seq (r14_81) (.ret)) (.skip))) (.seq (.seq (r14_82) (.cond (.tmp 401) (.seq (r14_83) (.seq (.seq (r14_84) (.block 14 (.loop b14_7))) (.seq (r14_88) (.seq (r14_89) (.ret))))) (.skip))) (.seq (r14_90) (.ret))))))))))))))))))))))))))))))):=zh T (F:=f14) (by kernel_rfl) (by kernel_rfl) (by kernel_rfl)
@[go_sem↓]theorem run14:RR yfb [oo 2 (.box 25 (.tmp 0)),oo 3 (.box 166 (.tmp 1)),oo 4 (.assign (.const (.bool false)))]∧RR yfa [oo 46 (oL 25 2),oo 47 (o1 98 46 25),oo 48 (.unOp .not 4 (.tmp 47)),oo 49 (oM 48),of 50 (oF 25 2 1) 49,of 51 (oL 3 50) 49,of 52 (oC .gtr 3 51 999745) 49,oo 53 (.pick (.tmp 49) (.const (.bool true)) (.tmp 52))]∧RR ye0 [oo 54 (.call ⟨.value (.func 16),#[],#[]⟩),oo 4 (oG 54)]∧RR yey [oo 56 (oL 25 2),oo 57 (o1 18 56 25),oo 58 (o1 36 57 34),oo 55 (oM 58),oo 59 (oX 55 0),oo 60 (oX 55 1),oo 5 (oG 59),oo 6 (oG 60)]∧RR yeo [oo 62 (oL 25 2),oo 63 (o1 18 62 25),oo 64 (o1 37 63 34),oo 61 (oM 64),oo 65 (oX 61 0),oo 66 (oX 61 1),oo 7 (oG 65),oo 8 (oG 66)]∧RR yem [oo 68 (oL 25 2),oo 69 (o1 18 68 25),oo 70 (o1 38 69 34),oo 67 (oM 70),oo 71 (oX 67 0),oo 72 (oX 67 1),oo 9 (oG 71),oo 10 (oG 72)]∧RR yef [oo 74 (oL 25 2),oo 75 (o1 18 74 25),oo 76 (o1 45 75 34),oo 73 (oM 76),oo 77 (oX 73 0),oo 78 (oX 73 1),oo 11 (oG 77),oo 12 (oG 78)]∧RR yed [oo 79 (oM 6),oo 80 (oC .neq 29 79 0),oo 81 (oM 80),ot 82 (oM 6) 81,ot 83 (oC .neq 29 82 18) 81,oo 84 (.pick (.tmp 81) (.tmp 83) (.const (.bool false))),oo 85 (oM 84),of 86 (oM 8) 85,of 87 (oM 6) 85,of 88 (oB .neq 29 86 87) 85,oo 89 (.pick (.tmp 85) (.const (.bool true)) (.tmp 88)),oo 90 (oM 89),of 91 (oM 10) 90,of 92 (oM 6) 90,of 93 (oB .neq 29 91 92) 90,oo 94 (.pick (.tmp 90) (.const (.bool true)) (.tmp 93)),oo 95 (oM 94),of 96 (oM 12) 95,of 97 (oM 6) 95,of 98 (oB .neq 29 96 97) 95,oo 99 (.pick (.tmp 95) (.const (.bool true)) (.tmp 98)),oo 100 (oM 99),of 101 (oM 6) 100,of 102 (oC .eql 29 101 0) 100,of 103 (oM 5) 100,of 104 (oN 103 22) 100,of 105 (oC .gtr 3 104 0) 100,of 106 (oB .neq 4 102 105) 100,oo 107 (.pick (.tmp 100) (.const (.bool true)) (.tmp 106))]∧RR yd7 [oo 4 (.assign (.const (.bool false)))]∧RR yd3 [oo 108 (oL 25 2),oo 109 (o1 88 108 25),oo 13 (.alloc 25),ow 25 13 109]∧RR ye9 [oo 110 (oF 25 13 1),oo 111 (oL 3 110),oo 112 (.indexAddr 166 (.tmp 3) (.const (.int .i64 0))),oo 113 (oL 5 112),oo 114 (.convert 5 3 (.tmp 113)),oo 115 (oB .add 3 111 114),oo 116 (oF 25 13 1),ow 3 116 115]∧RR ye8 [oo 14 on]∧RR ye7 [oo 15 on]∧RR ye6 [oo 117 (oF 25 2 0),oo 118 (oL 22 117),oo 119 (oN 118 22),oo 120 (.move (.const (.int .i64 0)))]∧RR ye5 [oo 121 (oB .lss 3 120 119)]∧RR ye4 [oo 122 (oM 14),oo 123 (.indexAddr 166 (.tmp 3) (.const (.int .i64 1))),oo 124 (oL 5 123),oo 125 (.convert 5 3 (.tmp 124)),oo 126 (oS 28 125),oo 127 (oA 122 126 28),oo 14 (oG 127)]∧RR ye3 [oo 128 (oC .add 3 120 1),oo 120 (oM 128)]∧RI zki (.seq (ye5) (.seq (.cond (.tmp 121) (.skip) (.exit 0)) (.seq (.block 1 (ye4)) (ye3))))∧z7 T 14 zki [2,3,5,6,7,9,11,13,14,15,119,120]∧RR r14_17 [oo 129 (oF 25 2 2),oo 130 (oL 23 129),oo 131 (oN 130 23),oo 132 (.move (.const (.int .i64 0)))]∧RR ye2 [oo 133 (oB .lss 3 132 131)]∧RR ye1 [oo 134 (oM 15),oo 135 (.indexAddr 166 (.tmp 3) (.const (.int .i64 2))),oo 136 (oL 5 135),oo 137 (.convert 5 3 (.tmp 136)),oo 138 (.call ⟨.value (.func 87),#[.const (.int .i64 0),.tmp 137],#[3,3]⟩),oo 139 (oS 72 138),oo 140 (oA 134 139 72),oo 15 (oG 140)]∧RR yez [oo 141 (oC .add 3 132 1),oo 132 (oM 141)]∧RI b14_1 (.seq (ye2) (.seq (.cond (.tmp 133) (.skip) (.exit 2)) (.seq (.block 3 (ye1)) (yez))))∧z7 T 14 b14_1 [2,3,5,6,7,9,11,13,14,15,131,132]∧RR r14_21 [oo 143 (oL 25 2),oo 144 (o1 18 143 25),oo 145 (oM 14),oo 146 (oM 15),oo 147 (.call ⟨.value (.func 50),#[.tmp 144,.tmp 145,.tmp 146],#[34,28,72]⟩),oo 142 (oM 147),oo 148 (oX 142 0),oo 149 (oX 142 1),oo 16 (.alloc 34),ow 34 16 148,oo 17 (oG 149)]∧RR r14_22 [oo 150 (oM 17),oo 151 (oC .neq 29 150 0),oo 152 (oM 151),of 153 (oL 34 16) 152,of 154 (o1 54 153 34) 152,of 155 (o1 20 154 25) 152,of 156 (oC .neq 3 155 0) 152,oo 157 (.pick (.tmp 152) (.const (.bool true)) (.tmp 156))]∧RR r14_23 [oo 4 (.assign (.const (.bool false)))]∧RR r14_24 [oo 18 (oi 99),oo 19 (oi 0),oo 20 (oi 0)]∧RR r14_25 [oo 158 (oM 5),oo 159 (oN 158 22),oo 160 (oC .gtr 3 159 0)]∧RR zmr [oo 161 (oM 5),oo 162 (.indexAddr 22 (.tmp 161) (.const (.int .i64 0))),oo 163 (oL 28 162),oo 164 (oN 163 28),oo 18 (oG 164)]∧RR r14_27 [oo 165 (oF 25 2 2),oo 166 (oL 23 165),oo 167 (oN 166 23),oo 168 (.makeSlice 28 (.tmp 167) (.tmp 167)),oo 21 (oG 168)]∧RR r14_28 [oo 22 (oi 0)]∧RR r14_29 [oo 169 (oF 25 2 2),oo 170 (oL 23 169),oo 171 (oN 170 23),oo 172 (.binOp .shl 3 (.const (.int .i64 1)) (.tmp 171) 3),oo 173 (.move (.const (.int .i64 0)))]∧RR yex [oo 174 (oB .lss 3 173 172)]∧RR yew [oo 175 (oM 173),oo 23 (oG 175)]∧RR yev [oo 24 on]∧RR yeu [oo 176 (oF 25 2 2),oo 177 (oL 23 176),oo 178 (oN 177 23),oo 179 (.move (.const (.int .i64 0)))]∧RR yet [oo 180 (oB .lss 3 179 178)]∧RR yes [oo 181 (oM 179),oo 25 (oG 181)]∧RR yer [oo 182 (oM 23),oo 183 (oM 25),oo 184 (oB .shr 3 182 183),oo 185 (oC .and 3 184 1),oo 186 (oC .eql 3 185 1)]∧RR yeq [oo 187 (oM 24),oo 188 (oM 25),oo 189 (oS 28 188),oo 190 (oA 187 189 28),oo 24 (oG 190)]∧RR yep [oo 191 (oC .add 3 179 1),oo 179 (oM 191)]∧RI zkh (.seq (yet) (.seq (.cond (.tmp 180) (.skip) (.exit 6)) (.seq (.block 7 (.seq (yes) (.seq (yer) (.cond (.tmp 186) (yeq) (.skip))))) (yep))))∧z7 T 14 zkh [2,5,6,7,9,11,13,16,18,19,20,21,22,23,24,172,173,178,179]∧RR r14_39 [oo 193 (oL 25 2),oo 194 (o1 18 193 25),oo 195 (oM 24),oo 196 (o1 27 195 28),oo 197 (o2 29 194 196 34 28),oo 192 (oM 197),oo 198 (oX 192 0),oo 199 (oX 192 1),oo 26 (oG 198),oo 27 (oG 199)]∧RR r14_40 [oo 201 (oL 25 13),oo 202 (o1 18 201 25),oo 203 (oM 24),oo 204 (o1 27 203 28),oo 205 (o2 29 202 204 34 28),oo 200 (oM 205),oo 206 (oX 200 0),oo 207 (oX 200 1),oo 28 (oG 206),oo 29 (oG 207)]∧RR r14_41 [oo 209 (oL 34 16),oo 210 (o1 54 209 34),oo 211 (o1 18 210 25),oo 212 (oM 24),oo 213 (o1 27 212 28),oo 214 (o2 29 211 213 34 28),oo 208 (oM 214),oo 215 (oX 208 0),oo 216 (oX 208 1),oo 30 (oG 215),oo 31 (oG 216)]∧RR r14_42 [oo 217 (oM 27),oo 218 (oC .neq 29 217 0),oo 219 (oM 218),of 220 (oM 29) 219,of 221 (oC .neq 29 220 0) 219,oo 222 (.pick (.tmp 219) (.const (.bool true)) (.tmp 221)),oo 223 (oM 222),of 224 (oM 31) 223,of 225 (oC .neq 29 224 0) 223,oo 226 (.pick (.tmp 223) (.const (.bool true)) (.tmp 225)),oo 227 (oM 226),of 228 (oM 26) 227,of 229 (oM 228) 227,ot 230 (oM 28) 229,ot 231 (.unOp .not 4 (.tmp 230)) 229,of 232 (.pick (.tmp 229) (.tmp 231) (.const (.bool false))) 227,oo 233 (.pick (.tmp 227) (.const (.bool true)) (.tmp 232)),oo 234 (oM 233),of 235 (oM 30) 234,of 236 (oM 235) 234,ot 237 (oM 26) 236,ot 238 (.unOp .not 4 (.tmp 237)) 236,of 239 (.pick (.tmp 236) (.tmp 238) (.const (.bool false))) 234,oo 240 (.pick (.tmp 234) (.const (.bool true)) (.tmp 239)),oo 241 (oM 240),of 242 (oM 26) 241,of 243 (oM 242) 241,ot 244 (oM 24) 243,ot 245 (oN 244 28) 243,ot 246 (oM 18) 243,ot 247 (oB .lss 3 245 246) 243,of 248 (.pick (.tmp 243) (.tmp 247) (.const (.bool false))) 241,oo 249 (.pick (.tmp 241) (.const (.bool true)) (.tmp 248))]∧RR r14_43 [oo 4 (.assign (.const (.bool false)))]∧RR r14_44 [oo 250 (oM 24),oo 251 (oN 250 28),oo 252 (oM 18),oo 253 (oB .lss 3 251 252)]∧RR zmq [oo 254 (oM 20),oo 255 (oC .add 3 254 1),oo 20 (oG 255)]∧RR r14_46 [oo 256 (oM 26),oo 257 (.unOp .not 4 (.tmp 256))]∧RR r14_47 [oo 258 (oM 22),oo 259 (oC .add 3 258 1),oo 22 (oG 259)]∧RR r14_48 [oo 260 (oM 24),oo 261 (oN 260 28),oo 262 (.move (.const (.int .i64 0)))]∧RR yen [oo 263 (oB .lss 3 262 261)]∧RR yel [oo 264 (oI 28 260 262),oo 265 (oL 3 264),oo 33 (oG 265)]∧RR yek [oo 266 (oM 21),oo 267 (oM 33),oo 268 (oI 28 266 267),oo 269 (oL 3 268),oo 270 (oC .add 3 269 1),oo 271 (oI 28 266 267),ow 3 271 270]∧RR yej [oo 272 (oC .add 3 262 1),oo 262 (oM 272)]∧RI b14_4 (.seq (yen) (.seq (.cond (.tmp 263) (.skip) (.exit 8)) (.seq (.block 9 (.seq (yel) (yek))) (yej))))∧z7 T 14 b14_4 [2,5,6,7,9,11,13,16,18,19,20,21,22,24,172,173,260,261,262]∧RR r14_53 [oo 273 (oM 24),oo 274 (oN 273 28),oo 275 (oM 18),oo 276 (oB .eql 3 274 275)]∧RR r14_54 [oo 277 (oM 19),oo 278 (oC .add 3 277 1),oo 19 (oG 278)]∧RR r14_55 [oo 34 (.assign (.const (.bool false)))]∧RR r14_56 [oo 279 (oM 5),oo 280 (oN 279 22),oo 281 (.move (.const (.int .i64 0)))]∧RR yei [oo 282 (oB .lss 3 281 280)]∧RR yeh [oo 283 (oI 22 279 281),oo 284 (oL 28 283),oo 36 (oG 284)]∧RR yeg [oo 285 (oM 34),oo 286 (oM 285),of 287 (oM 36) 286,of 288 (oM 24) 286,of 289 (o2 89 287 288 28 28) 286,oo 290 (.pick (.tmp 286) (.const (.bool true)) (.tmp 289)),oo 34 (oG 290)]∧RR yee [oo 291 (oC .add 3 281 1),oo 281 (oM 291)]∧RI b14_5 (.seq (yei) (.seq (.cond (.tmp 282) (.skip) (.exit 10)) (.seq (.block 11 (.seq (yeh) (yeg))) (yee))))∧z7 T 14 b14_5 [2,5,6,7,9,11,13,16,18,19,20,21,22,24,34,172,173,279,280,281]∧RR r14_61 [oo 292 (oM 34),oo 293 (.unOp .not 4 (.tmp 292))]∧RR r14_62 [oo 4 (.assign (.const (.bool false)))]∧RR ze3 [oo 294 (oC .add 3 173 1),oo 173 (oM 294)]∧RI b14_2 (.seq (yex) (.seq (.cond (.tmp 174) (.skip) (.exit 4)) (.seq (.block 5 (.seq (yew) (.seq (yev) (.seq (.seq (yeu) (.block 6 (.loop zkh))) (.seq (r14_39) (.seq (r14_40) (.seq (r14_41) (.seq (.seq (r14_42) (.cond (.tmp 249) (.seq (r14_43) (.ret)) (.skip))) (.seq (.seq (r14_44) (.cond (.tmp 253) (zmq) (.skip))) (.seq (.seq (r14_46) (.cond (.tmp 257) (.exit 5) (.skip))) (.seq (r14_47) (.seq (.seq (r14_48) (.block 8 (.loop b14_4))) (.seq (r14_53) (.cond (.tmp 276) (.seq (r14_54) (.seq (r14_55) (.seq (.seq (r14_56) (.block 10 (.loop b14_5))) (.seq (r14_61) (.cond (.tmp 293) (.seq (r14_62) (.ret)) (.skip)))))) (.skip))))))))))))))) (ze3))))∧z7 T 14 b14_2 [2,5,6,7,9,11,13,16,18,19,20,21,22,172,173]∧RR r14_64 [oo 295 (oM 19),oo 296 (oM 5),oo 297 (oN 296 22),oo 298 (oB .neq 3 295 297),oo 299 (oM 298),of 300 (oM 22) 299,of 301 (oC .eql 3 300 0) 299,of 302 (oM 6) 299,of 303 (oC .eql 29 302 18) 299,of 304 (oB .neq 4 301 303) 299,oo 305 (.pick (.tmp 299) (.const (.bool true)) (.tmp 304))]∧RR r14_65 [oo 4 (.assign (.const (.bool false)))]∧RR r14_66 [oo 307 (oL 25 2),oo 308 (o1 18 307 25),oo 309 (o1 92 308 34),oo 306 (oM 309),oo 310 (oX 306 0),oo 311 (oX 306 1),oo 37 (oG 310),oo 38 (oG 311)]∧RR r14_67 [oo 313 (oM 37),oo 314 (o1 93 313 9),oo 312 (oM 314),oo 315 (oX 312 0),oo 316 (oX 312 1),oo 317 (oX 312 2),oo 39 (oG 315),oo 40 (oG 316),oo 41 (oG 317)]∧RD r14_68 14 [oo 318 (oM 38),oo 319 (oC .neq 29 318 0),oo 320 (oM 319),of 321 (oM 41) 320,of 322 (oC .neq 29 321 0) 320,oo 323 (.pick (.tmp 320) (.const (.bool true)) (.tmp 322)),oo 324 (oM 323),of 325 (oM 40) 324,of 326 (oC .neq 3 325 0) 324,oo 327 (.pick (.tmp 324) (.const (.bool true)) (.tmp 326)),oo 328 (oM 327),of 329 (oM 39) 328,of 330 (o1 97 329 32) 328,of 331 (oF 25 2 2) 328,of 332 (oL 23 331) 328,of 333 (o2 96 330 332 23 23) 328,of 334 (.unOp .not 4 (.tmp 333)) 328,oo 335 (.pick (.tmp 328) (.const (.bool true)) (.tmp 334))] [(11,13),(12,13),(11,14),(12,14)]∧RR r14_69 [oo 4 (.assign (.const (.bool false)))]∧RR r14_70 [oo 336 (oM 22),oo 337 (oC .eql 3 336 0)]∧RR r14_71 [oo 338 (.call ⟨.value (.func 16),#[],#[]⟩),oo 4 (oG 338)]∧RR r14_72 [oo 339 (oF 25 2 2),oo 340 (oL 23 339),oo 341 (oN 340 23),oo 342 (.move (.const (.int .i64 0)))]∧RR yec [oo 343 (oB .lss 3 342 341)]∧RR yeb [oo 344 (oM 342),oo 345 (oI 23 340 342),oo 346 (oL 140 345),oo 43 (.alloc 140),oo 42 (oG 344),ow 140 43 346]∧RD yea 14 [oo 347 (oM 7),oo 348 (oF 140 43 0),oo 349 (oL 9 348),oo 350 (o2 99 347 349 60 9),oo 351 (oM 21),oo 352 (oM 42),oo 353 (oI 28 351 352),oo 354 (oL 3 353),oo 355 (oM 22),oo 356 (oB .eql 3 354 355),oo 357 (oB .neq 4 350 356),oo 358 (oM 357),of 359 (oM 9) 358,of 360 (oF 140 43 0) 358,of 361 (oL 9 360) 358,of 362 (o2 99 359 361 60 9) 358,of 363 (oM 21) 358,of 364 (oM 42) 358,of 365 (oI 28 363 364) 358,of 366 (oL 3 365) 358,of 367 (oC .gtr 3 366 0) 358,of 368 (oB .neq 4 362 367) 358,oo 369 (.pick (.tmp 358) (.const (.bool true)) (.tmp 368))] [(0,1),(0,2),(0,4),(1,4),(2,4),(3,4),(0,5),(1,5),(2,5),(3,5),(4,5),(0,6),(1,6),(2,6),(3,6),(0,7),(1,7),(2,7),(3,7),(0,8),(1,8),(2,8),(3,8),(4,8),(5,8),(6,8),(7,8),(0,9),(1,9),(2,9),(3,9),(12,13),(12,14),(12,16),(13,16),(14,16),(15,16),(12,17),(13,17),(14,17),(15,17),(16,17),(12,18),(13,18),(14,18),(15,18),(12,19),(13,19),(14,19),(15,19),(12,20),(13,20),(14,20),(15,20)]∧RR yd9 [oo 4 (.assign (.const (.bool false)))]∧RR yd8 [oo 370 (oC .add 3 342 1),oo 342 (oM 370)]∧RI b14_6 (.seq (yec) (.seq (.cond (.tmp 343) (.skip) (.exit 12)) (.seq (.block 13 (.seq (yeb) (.seq (yea) (.cond (.tmp 369) (.seq (yd9) (.ret)) (.skip))))) (yd8))))∧z7 T 14 b14_6 [2,7,9,11,18,20,21,22,340,341,342]∧RR r14_78 [oo 371 (oM 11),oo 372 (oN 371 48),oo 373 (oM 20),oo 374 (oB .neq 3 372 373),oo 375 (oM 374),of 376 (oL 25 2) 375,of 377 (o1 18 376 25) 375,of 378 (oM 18) 375,of 379 (oM 11) 375,of 380 (o1 47 379 48) 375,of 381 (.call ⟨.value (.func 46),#[.tmp 377,.tmp 378,.tmp 380],#[34,3,48]⟩) 375,of 382 (oC .neq 29 381 0) 375,oo 383 (.pick (.tmp 375) (.const (.bool true)) (.tmp 382))]∧RR r14_79 [oo 4 (.assign (.const (.bool false)))]∧RD r14_80 14 [oo 384 (oM 11),oo 385 (oN 384 48),oo 386 (oC .gtr 3 385 0),oo 387 (oM 386),ot 388 (oL 25 2) 387,ot 389 (o1 18 388 25) 387,ot 390 (oM 18) 387,ot 391 (oM 11) 387,ot 392 (.slice 48 (.tmp 391) (some (.const (.int .i64 1))) none none) 387,ot 393 (o1 47 392 48) 387,ot 394 (.call ⟨.value (.func 46),#[.tmp 389,.tmp 390,.tmp 393],#[34,3,48]⟩) 387,ot 395 (oC .neq 29 394 2) 387,oo 396 (.pick (.tmp 387) (.tmp 395) (.const (.bool false)))] [(4,6),(5,6),(4,7),(5,7),(6,7),(4,8),(5,8),(6,8),(6,9)]∧RR r14_81 [oo 4 (.assign (.const (.bool false)))]∧RR r14_82 [oo 397 (oM 18),oo 398 (oF 25 2 2),oo 399 (oL 23 398),oo 400 (oN 399 23),oo 401 (oB .lss 3 397 400)]∧RR r14_83 [oo 402 (.makeSlice 48 (.const (.int .i64 0)) (.const (.int .i64 32))),oo 44 (oG 402)]∧RR r14_84 [oo 403 (oF 25 2 2),oo 404 (oL 23 403),oo 405 (oN 404 23),oo 406 (.binOp .shl 3 (.const (.int .i64 1)) (.tmp 405) 3),oo 407 (.move (.const (.int .i64 0)))]∧RR yd6 [oo 408 (oB .lss 3 407 406)]∧RR yd5 [oo 409 (oM 44),oo 410 (.build 100 #[]),oo 411 (oS 48 410),oo 412 (oA 409 411 48),oo 44 (oG 412)]∧RR yd4 [oo 413 (oC .add 3 407 1),oo 407 (oM 413)]∧RI b14_7 (.seq (yd6) (.seq (.cond (.tmp 408) (.skip) (.exit 14)) (.seq (.block 15 (yd5)) (yd4))))∧z7 T 14 b14_7 [2,18,44,406,407]∧RD r14_88 14 [oo 414 (oL 25 2),oo 415 (o1 18 414 25),oo 416 (oM 18),oo 417 (oC .add 3 416 1),oo 418 (oM 44),oo 419 (oM 44),oo 420 (oN 419 48),oo 421 (oF 25 2 2),oo 422 (oL 23 421),oo 423 (oN 422 23),oo 424 (oM 18),oo 425 (o2 100 423 424 3 3),oo 426 (.call ⟨.builtin .min,#[.tmp 420,.tmp 425],#[3,3]⟩),oo 427 (.slice 48 (.tmp 418) none (some (.tmp 426)) none),oo 428 (.call ⟨.value (.func 46),#[.tmp 415,.tmp 417,.tmp 427],#[34,3,48]⟩),oo 45 (oG 428)] [(0,2),(1,2),(0,3),(1,3),(0,4),(1,4),(2,4),(3,4),(0,5),(1,5),(2,5),(3,5),(4,5),(0,6),(1,6),(2,6),(3,6),(4,6),(0,7),(1,7),(2,7),(3,7),(4,7),(5,7),(6,7),(0,8),(1,8),(2,8),(3,8),(4,8),(5,8),(6,8),(0,9),(1,9),(2,9),(3,9),(4,9),(5,9),(6,9),(0,10),(1,10),(2,10),(3,10),(4,10),(5,10),(6,10),(7,10),(8,10),(9,10),(2,11),(3,11),(4,11),(5,11),(6,11),(2,12),(3,12),(4,12),(2,13),(3,13)]∧RR r14_89 [oo 429 (oM 45),oo 430 (oC .eql 29 429 19),oo 431 (oM 430),ot 432 (.call ⟨.value (.func 16),#[],#[]⟩) 431,oo 433 (.pick (.tmp 431) (.tmp 432) (.const (.bool false))),oo 4 (oG 433)]∧RR r14_90 [oo 434 (.call ⟨.value (.func 16),#[],#[]⟩),oo 4 (oG 434)]∧zu T 14 [.tmp 4] false:=by refine⟨zz T ?_,zz T ?_,zz T ?_,zz T ?_,zz T ?_,zz T ?_,zz T ?_,zz T ?_,zz T ?_,zz T ?_,zz T ?_,zz T ?_,zz T ?_,zz T ?_,zz T ?_,zz T ?_,zz T ?_,zl T ?_,z8 T ?_,zz T ?_,zz T ?_,zz T ?_,zz T ?_,zl T ?_,z8 T ?_,zz T ?_,zz T ?_,zz T ?_,zz T ?_,zz T ?_,zz T ?_,zz T ?_,zz T ?_,zz T ?_,zz T ?_,zz T ?_,zz T ?_,zz T ?_,zz T ?_,zz T ?_,zz T ?_,zz T ?_,zz T ?_,zl T ?_,z8 T ?_,zz T ?_,zz T ?_,zz T ?_,zz T ?_,zz T ?_,zz T ?_,zz T ?_,zz T ?_,zz T ?_,zz T ?_,zz T ?_,zz T ?_,zz T ?_,zz T ?_,zl T ?_,z8 T ?_,zz T ?_,zz T ?_,zz T ?_,zz T ?_,zz T ?_,zz T ?_,zz T ?_,zz T ?_,zl T ?_,z8 T ?_,zz T ?_,zz T ?_,zz T ?_,zl T ?_,z8 T ?_,zz T ?_,zz T ?_,zz T ?_,zz T ?_,xt T (id:=68) ?_ ?_,zz T ?_,zz T ?_,zz T ?_,zz T ?_,zz T ?_,zz T ?_,xt T (id:=75) ?_ ?_,zz T ?_,zz T ?_,zl T ?_,z8 T ?_,zz T ?_,zz T ?_,xt T (id:=80) ?_ ?_,zz T ?_,zz T ?_,zz T ?_,zz T ?_,zz T ?_,zz T ?_,zz T ?_,zl T ?_,z8 T ?_,xt T (id:=88) ?_ ?_,zz T ?_,zz T ?_,zf T (F:=f14) ?_ ?_ ?_⟩<;>kernel_rfl
@[go_sem]theorem ynt:x9 T 173 false (some zbu) false:=⟨by kernel_rfl,by kernel_rfl,by kernel_rfl⟩
@[go_sem]theorem res173:zd T 173 9:=zm T (F:=f173) (by kernel_rfl) (by kernel_rfl)
@[go_sem]theorem fr175:x9 T 175 false none false∧zd T 175 9:=by refine⟨⟨?_,?_,?_⟩,zm T (F:=f175) ?_ ?_⟩<;>kernel_rfl
def zsf:=nv 2 f92
def zse:=nv 12 f92
def zsd:=nv 26 f92
def zsc:=nv 108 f92
def zsb:=nv 14 f92
theorem xfd:qq T 92 14 (.seq (zsf) (.seq (.seq (zse) (.seq (zsd) (.cond (.tmp 8) (.seq (zsc) (.ret)) (.skip)))) (.seq (zsb) (.ret)))):=zh T (F:=f92) (by kernel_rfl) (by kernel_rfl) (by kernel_rfl)
@[go_sem↓]theorem run92:RR zsf [oo 1 (.box 34 (.tmp 0)),oo 2 (.assign (.const (.string ⟨#[]⟩))),oo 3 (oi 0)]∧RR zse [oo 5 (oL 34 1),oo 6 (o1 23 5 34),oo 4 (oG 6)]∧RR zsd [oo 7 (oM 4),oo 8 (oC .neq 29 7 0)]∧RR zsc [oo 9 (oM 4),oo 2 (.assign (.const (.string ⟨#[]⟩))),oo 3 (oG 9)]∧RR zsb [oo 10 (oF 34 1 2),oo 11 (oL 32 10),oo 12 (.call ⟨.value (.func 174),#[.tmp 11,.func 175],#[32,257]⟩),oo 13 (.call ⟨.value (.func 173),#[.tmp 12,.const (.string ⟨#[]⟩)],#[60,9]⟩),oo 2 (oG 13),oo 3 (oi 0)]∧zu T 92 [.tmp 2,.tmp 3] false:=by refine⟨zz T ?_,zz T ?_,zz T ?_,zz T ?_,zz T ?_,zf T (F:=f92) ?_ ?_ ?_⟩<;>kernel_rfl
@[go_sem]theorem fr176:x9 T 176 true none false∧zd T 176 260:=by refine⟨⟨?_,?_,?_⟩,zm T (F:=f176) ?_ ?_⟩<;>kernel_rfl
@[go_sem]theorem fr177:x9 T 177 false none false∧yx T 177 9 4 []:=by refine⟨⟨?_,?_,?_⟩,wa T (F:=f177) ?_ ?_⟩<;>kernel_rfl
@[go_sem]theorem fr178:x9 T 178 false none false∧zd T 178 60:=by refine⟨⟨?_,?_,?_⟩,zm T (F:=f178) ?_ ?_⟩<;>kernel_rfl
@[go_sem]theorem fr179:x9 T 179 true none false∧zd T 179 9:=by refine⟨⟨?_,?_,?_⟩,zm T (F:=f179) ?_ ?_⟩<;>kernel_rfl
@[go_sem]theorem fr180:x9 T 180 true none false∧zd T 180 3:=by refine⟨⟨?_,?_,?_⟩,zm T (F:=f180) ?_ ?_⟩<;>kernel_rfl
def zsa:=nv 2 f93
def zr9:=nv 12 f93
def zr1:=nv 52 f93
def zr0:=nv 14 f93
def zrz:=nv 60 f93
def zbb:=nv 244 f93
def za6:=nv 245 f93
def zry:=nv 244 f93
def zrx:=nv 980 f93
def zrw:=nv 1962 f93
def zrv:=nv 3926 f93
def zru:=nv 7854 f93
def zr8:=nv 15710 f93
def zr7:=nv 31422 f93
def zjt:=nv 251384 f93
def zr6:=nv 1005536 f93
def zr5:=nv 2011076 f93
def zr4:=nv 4022154 f93
def zr3:=nv 8044310 f93
def zr2:=nv 8044311 f93
def zlz:=nv 251388 f93
def zly:=nv 1005556 f93
def zlx:=nv 125695 f93
def r93_20:=nv 124 f93
def r93_21:=nv 250 f93
def r93_22:=nv 1004 f93
def r93_23:=nv 126 f93
theorem xfc:qq T 93 88 (.seq (zsa) (.seq (.seq (zr9) (.cond (.tmp 18) (.seq (zr1) (.ret)) (.skip))) (.seq (zr0) (.seq (.seq (zrz) (.block 0 (.rangeFunc (.tmp 20) #[21] zbb za6))) (.seq (.seq (r93_20) (.seq (r93_21) (.cond (.tmp 83) (.seq (r93_22) (.ret)) (.skip)))) (.seq (r93_23) (.ret))))))):=zh T (F:=f93) (by kernel_rfl) (by kernel_rfl) (by kernel_rfl)
@[go_sem↓]theorem run93:RR zsa [oo 2 (.alloc 32),oo 3 (.alloc 3),oo 4 (.alloc 29)]∧RR zr9 [oo 16 (oM 0),oo 17 (oN 16 9),oo 18 (oC .gtr 3 17 4096)]∧RR zr1 [⟨none,.store 32 (.tmp 2) (.const (.slice none 0 0)),none⟩,⟨none,.store 3 (.tmp 3) (.const (.int .i64 0)),none⟩,⟨none,.store 29 (.tmp 4) (.const (.int .i64 26)),none⟩]∧RR zr0 [oo 5 (.alloc 32)]∧RR zrz [oo 19 (oM 0),oo 20 (o1 176 19 9)]∧RR zry [oo 6 (oG 21)]∧RR zrx [oo 23 (oM 6),oo 24 (.call ⟨.value (.func 177),#[.tmp 23,.const (.string ⟨#[10]⟩)],#[9,9]⟩),oo 22 (oM 24),oo 25 (oX 22 0),oo 26 (oX 22 1),oo 7 (oG 25),oo 8 (oG 26)]∧RR zrw [oo 27 (oM 7),oo 28 (.call ⟨.value (.func 178),#[.tmp 27,.const (.string ⟨#[32]⟩)],#[9,9]⟩),oo 29 (.build 267 #[(0,.tmp 28)]),oo 30 (.box 267 (.tmp 29)),oo 9 (oG 30)]∧RR zrv [oo 31 (oM 9),oo 32 (.makeFunc (.func 179) #[.tmp 31] #[]),oo 33 (oM 9),oo 34 (.makeFunc (.func 180) #[.tmp 33] #[]),oo 10 (oG 32),oo 11 (oG 34)]∧RR zru [oo 35 (oM 10),oo 36 (.call ⟨.value (.tmp 35),#[],#[]⟩),oo 37 (.binOp .eql 9 (.tmp 36) (.const (.string ⟨#[99,97,117,115,101]⟩)) 9),oo 12 (oG 37)]∧RR zr8 [oo 38 (oM 10),oo 39 (.call ⟨.value (.tmp 38),#[],#[]⟩),oo 40 (.build 180 #[(0,.tmp 39)]),oo 13 (.alloc 180),ow 180 13 40]∧RR zr7 [oo 41 (oM 11),oo 42 (.call ⟨.value (.tmp 41),#[],#[]⟩),oo 43 (oF 180 13 1),ow 3 43 42]∧RR zr6 [oo 44 (oM 9),oo 45 (.nilCheck (.tmp 44)),oo 46 (oF 267 45 0),oo 47 (oL 60 46),oo 48 (oN 47 60),oo 49 (oC .gtr 3 48 0)]∧RR zr5 [oo 14 (.alloc 142)]∧RR zr4 [oo 50 (oM 11),oo 51 (.call ⟨.value (.tmp 50),#[],#[]⟩),oo 52 (oF 142 14 0),ow 3 52 51]∧RR zr3 [oo 53 (oM 11),oo 54 (.call ⟨.value (.tmp 53),#[],#[]⟩),oo 55 (oF 142 14 1),ow 3 55 54]∧RR zr2 [oo 56 (oF 180 13 2),oo 57 (oL 72 56),oo 58 (oL 142 14),oo 59 (oS 72 58),oo 60 (oA 57 59 72),oo 61 (oF 180 13 2),ow 72 61 60]∧RI zjt (.seq (.seq (zr6) (.cond (.tmp 49) (.skip) (.exit 2))) (.block 3 (.seq (zr5) (.seq (zr4) (.seq (zr3) (zr2))))))∧z7 T 93 zjt [2,3,4,5,8,9,11,12,13]∧RR zlz [oo 62 (oM 8),oo 63 (.unOp .not 4 (.tmp 62)),oo 64 (oM 63),of 65 (oM 12) 64,of 66 (.unOp .not 4 (.tmp 65)) 64,oo 67 (.pick (.tmp 64) (.const (.bool true)) (.tmp 66)),oo 68 (oM 67),of 69 (oM 9) 68,of 70 (.nilCheck (.tmp 69)) 68,of 71 (oF 267 70 1) 68,of 72 (oL 4 71) 68,oo 73 (.pick (.tmp 68) (.const (.bool true)) (.tmp 72))]∧RD zly 93 [oo 74 (oL 32 5),oo 75 (oN 74 32),⟨none,.store 32 (.tmp 2) (.const (.slice none 0 0)),none⟩,ow 3 3 75,⟨none,.store 29 (.tmp 4) (.const (.int .i64 25)),none⟩] [(0,2),(1,2)]∧RR zlx [oo 76 (oL 32 5),oo 77 (oL 180 13),oo 78 (oS 32 77),oo 79 (oA 76 78 32),ow 32 5 79]∧RI zbb (zry)∧RI za6 (.block 1 (.seq (zrx) (.seq (zrw) (.seq (zrv) (.seq (zru) (.seq (zr8) (.seq (zr7) (.seq (.block 2 (.loop zjt)) (.seq (.seq (zlz) (.cond (.tmp 73) (.seq (zly) (.ret)) (.skip))) (zlx))))))))))∧RR r93_20 [oo 80 (oL 32 5),oo 81 (o1 120 80 32),oo 15 (oG 81)]∧RR r93_21 [oo 82 (oM 15),oo 83 (oC .neq 29 82 0)]∧RD r93_22 93 [oo 84 (oL 32 5),oo 85 (oN 84 32),oo 86 (oM 15),⟨none,.store 32 (.tmp 2) (.const (.slice none 0 0)),none⟩,ow 3 3 85,ow 29 4 86] [(0,2),(1,2),(0,3),(1,3),(2,3),(2,4)]∧RR r93_23 [oo 87 (oL 32 5),ow 32 2 87,⟨none,.store 3 (.tmp 3) (.const (.int .i64 0)),none⟩,⟨none,.store 29 (.tmp 4) (.const (.int .i64 0)),none⟩]∧zu T 93 [.cell 2 32,.cell 3 3,.cell 4 29] false:=by refine⟨zz T ?_,zz T ?_,zz T ?_,zz T ?_,zz T ?_,zz T ?_,zz T ?_,zz T ?_,zz T ?_,zz T ?_,zz T ?_,zz T ?_,zz T ?_,zz T ?_,zz T ?_,zz T ?_,zz T ?_,zl T ?_,z8 T ?_,zz T ?_,xt T (id:=18) ?_ ?_,zz T ?_,zl T ?_,zl T ?_,zz T ?_,zz T ?_,xt T (id:=22) ?_ ?_,zz T ?_,zf T (F:=f93) ?_ ?_ ?_⟩<;>kernel_rfl
def zrd:=nv 2 f98
def zrc:=nv 6 f98
theorem xfa:qq T 98 30 (.seq (zrd) (.seq (zrc) (.ret))):=zh T (F:=f98) (by kernel_rfl) (by kernel_rfl) (by kernel_rfl)
@[go_sem↓]theorem run98:RR zrd [oo 1 (.box 25 (.tmp 0)),oo 2 (.assign (.const (.bool false)))]∧RR zrc [oo 3 (oL 25 1),oo 4 (o1 15 3 25),oo 5 (oM 4),ot 6 (oF 25 1 2) 5,ot 7 (oL 23 6) 5,ot 8 (oN 7 23) 5,ot 9 (oC .leq 3 8 5) 5,oo 10 (.pick (.tmp 5) (.tmp 9) (.const (.bool false))),oo 11 (oM 10),ot 12 (oF 25 1 0) 11,ot 13 (oL 22 12) 11,ot 14 (oN 13 22) 11,ot 15 (oC .leq 3 14 6) 11,oo 16 (.pick (.tmp 11) (.tmp 15) (.const (.bool false))),oo 17 (oM 16),ot 18 (oL 25 1) 17,ot 19 (o1 20 18 25) 17,ot 20 (oC .eql 3 19 0) 17,oo 21 (.pick (.tmp 17) (.tmp 20) (.const (.bool false))),oo 22 (oM 21),ot 23 (oF 25 1 0) 22,ot 24 (oL 22 23) 22,ot 25 (.indexAddr 22 (.tmp 24) (.const (.int .i64 0))) 22,ot 26 (oL 28 25) 22,ot 27 (oN 26 28) 22,ot 28 (oC .leq 3 27 4) 22,oo 29 (.pick (.tmp 22) (.tmp 28) (.const (.bool false))),oo 2 (oG 29)]∧zu T 98 [.tmp 2] false:=by refine⟨zz T ?_,zz T ?_,zf T (F:=f98) ?_ ?_ ?_⟩<;>kernel_rfl
def zrb:=nv 2 f99
def zra:=nv 12 f99
def zjr:=nv 52 f99
def zq9:=nv 208 f99
def zq7:=nv 840 f99
def zq6:=nv 3364 f99
def zq8:=nv 211 f99
def zlv:=nv 14 f99
theorem xe9:qq T 99 18 (.seq (zrb) (.seq (.seq (zra) (.block 0 (.loop zjr))) (.seq (zlv) (.ret)))):=zh T (F:=f99) (by kernel_rfl) (by kernel_rfl) (by kernel_rfl)
@[go_sem↓]theorem run99:RR zrb [oo 4 (.assign (.const (.bool false)))]∧RR zra [oo 5 (oi 0)]∧RR zq9 [oo 6 (oM 5),oo 7 (oM 0),oo 8 (oN 7 60),oo 9 (oB .lss 3 6 8)]∧RR zq7 [oo 12 (oM 0),oo 13 (oM 5),oo 14 (oI 60 12 13),oo 15 (oL 9 14),oo 16 (oM 1),oo 17 (oB .eql 9 15 16)]∧RR zq6 [oo 4 (.assign (.const (.bool true)))]∧RR zq8 [oo 10 (oM 5),oo 11 (oC .add 3 10 1),oo 5 (oG 11)]∧RI zjr (.seq (.seq (zq9) (.cond (.tmp 9) (.skip) (.exit 0))) (.seq (.block 1 (.seq (zq7) (.cond (.tmp 17) (.seq (zq6) (.ret)) (.skip)))) (zq8)))∧z7 T 99 zjr [0,1,5]∧RR zlv [oo 4 (.assign (.const (.bool false)))]∧zu T 99 [.tmp 4] false:=by refine⟨zz T ?_,zz T ?_,zz T ?_,zz T ?_,zz T ?_,zz T ?_,zl T ?_,z8 T ?_,zz T ?_,zf T (F:=f99) ?_ ?_ ?_⟩<;>kernel_rfl
@[go_sem]theorem ynr:x9 T 224 false (some zcn) false:=⟨by kernel_rfl,by kernel_rfl,by kernel_rfl⟩
@[go_sem]theorem res224:zd T 224 9:=zm T (F:=f224) (by kernel_rfl) (by kernel_rfl)
def ydf:=nv 2 f175
def yde:=nv 6 f175
def ydd:=nv 28 f175
def zke:=nv 116 f175
def ydc:=nv 232 f175
def ydb:=nv 3736 f175
def yda:=nv 3737 f175
def yc9:=nv 935 f175
def zmn:=nv 30 f175
theorem xgt:qq T 175 32 (.seq (ydf) (.seq (yde) (.seq (.seq (ydd) (.block 0 (.loop zke))) (.seq (zmn) (.ret))))):=zh T (F:=f175) (by kernel_rfl) (by kernel_rfl) (by kernel_rfl)
@[go_sem↓]theorem run175:RR ydf [oo 1 (.box 180 (.tmp 0)),oo 2 (.assign (.const (.string ⟨#[]⟩)))]∧RD yde 175 [oo 6 (oF 180 1 0),oo 7 (oL 9 6),oo 8 (oF 180 1 1),oo 9 (oL 3 8),oo 10 (o1 224 9 3),oo 11 (.buildSlice 60 3 #[(0,.const (.string ⟨#[99,97,117,115,101]⟩)),(1,.tmp 7),(2,.tmp 10)]),oo 3 (oG 11)] [(0,2),(1,2),(0,3),(1,3),(0,4),(1,4)]∧RR ydd [oo 12 (oF 180 1 2),oo 13 (oL 72 12),oo 14 (oN 13 72),oo 15 (.move (.const (.int .i64 0)))]∧RR ydc [oo 16 (oB .lss 3 15 14)]∧RR ydb [oo 17 (oI 72 13 15),oo 18 (oL 142 17),oo 5 (.alloc 142),ow 142 5 18]∧RD yda 175 [oo 19 (oM 3),oo 20 (oF 142 5 0),oo 21 (oL 3 20),oo 22 (o1 224 21 3),oo 23 (oF 142 5 1),oo 24 (oL 3 23),oo 25 (o1 224 24 3),oo 26 (.buildSlice 60 2 #[(0,.tmp 22),(1,.tmp 25)]),oo 27 (oA 19 26 60),oo 3 (oG 27)] [(0,1),(0,2),(0,3),(0,4),(1,4),(2,4),(3,4),(0,5),(1,5),(2,5),(3,5),(0,6),(0,7)]∧RR yc9 [oo 28 (oC .add 3 15 1),oo 15 (oM 28)]∧RI zke (.seq (ydc) (.seq (.cond (.tmp 16) (.skip) (.exit 0)) (.seq (.block 1 (.seq (ydb) (yda))) (yc9))))∧z7 T 175 zke [3,13,14,15]∧RR zmn [oo 29 (oM 3),oo 30 (.call ⟨.value (.func 173),#[.tmp 29,.const (.string ⟨#[32]⟩)],#[60,9]⟩),oo 31 (.binOp .add 9 (.tmp 30) (.const (.string ⟨#[10]⟩)) 9),oo 2 (oG 31)]∧zu T 175 [.tmp 2] false:=by refine⟨zz T ?_,xt T (id:=1) ?_ ?_,zz T ?_,zz T ?_,zz T ?_,xt T (id:=5) ?_ ?_,zz T ?_,zl T ?_,z8 T ?_,zz T ?_,zf T (F:=f175) ?_ ?_ ?_⟩<;>kernel_rfl
@[go_sem]theorem zok:x9 T 225 true none false:=⟨by kernel_rfl,by kernel_rfl,by kernel_rfl⟩
@[go_sem]theorem res225:zb8 T 225:=zdo T (F:=f225) (by kernel_rfl) (by kernel_rfl)
def yc8:=nv 2 f176
def yc7:=nv 6 f176
theorem xgs:qq T 176 4 (.seq (yc8) (.seq (yc7) (.ret))):=zh T (F:=f176) (by kernel_rfl) (by kernel_rfl) (by kernel_rfl)
@[go_sem↓]theorem run176:RR yc8 [oo 1 (.box 9 (.tmp 0)),oo 2 (.assign (.const (.nilFunc)))]∧RR yc7 [oo 3 (.makeFunc (.func 225) #[] #[.tmp 1]),oo 2 (oG 3)]∧zu T 176 [.tmp 2] true:=by refine⟨zz T ?_,zz T ?_,zf T (F:=f176) ?_ ?_ ?_⟩<;>kernel_rfl
@[go_sem]theorem fr227:x9 T 227 false none false∧yx T 227 9 4 []:=by refine⟨⟨?_,?_,?_⟩,wa T (F:=f227) ?_ ?_⟩<;>kernel_rfl
def yc6:=nv 2 f177
def yc5:=nv 6 f177
theorem xgr:qq T 177 11 (.seq (yc6) (.seq (yc5) (.ret))):=zh T (F:=f177) (by kernel_rfl) (by kernel_rfl) (by kernel_rfl)
@[go_sem↓]theorem run177:RR yc6 [oo 4 (.assign (.const (.string ⟨#[]⟩))),oo 5 (.assign (.const (.bool false)))]∧RR yc5 [oo 6 (oM 0),oo 7 (oM 1),oo 8 (o2 227 6 7 9 9),oo 9 (oX 8 0),oo 10 (oX 8 1),oo 4 (oG 9),oo 5 (oG 10)]∧zu T 177 [.tmp 4,.tmp 5] false:=by refine⟨zz T ?_,zz T ?_,zf T (F:=f177) ?_ ?_ ?_⟩<;>kernel_rfl
@[go_sem]theorem fr228:x9 T 228 false none false∧zd T 228 60:=by refine⟨⟨?_,?_,?_⟩,zm T (F:=f228) ?_ ?_⟩<;>kernel_rfl
def yc4:=nv 2 f178
def yc3:=nv 6 f178
theorem xgq:qq T 178 8 (.seq (yc4) (.seq (yc3) (.ret))):=zh T (F:=f178) (by kernel_rfl) (by kernel_rfl) (by kernel_rfl)
@[go_sem↓]theorem run178:RR yc4 [oo 4 on]∧RR yc3 [oo 5 (oM 0),oo 6 (oM 1),oo 7 (.call ⟨.value (.func 228),#[.tmp 5,.tmp 6,.const (.int .i64 0),.const (.int .i64 (-1))],#[9,9,3,3]⟩),oo 4 (oG 7)]∧zu T 178 [.tmp 4] false:=by refine⟨zz T ?_,zz T ?_,zf T (F:=f178) ?_ ?_ ?_⟩<;>kernel_rfl
def yc2:=nv 2 f179
def yc1:=nv 12 f179
def yc0:=nv 52 f179
def ycz:=nv 106 f179
def ycy:=nv 14 f179
def ycx:=nv 30 f179
def ycw:=nv 62 f179
theorem zon:qq T 179 40 (.seq (yc2) (.seq (.seq (yc1) (.cond (.tmp 18) (.seq (yc0) (.seq (ycz) (.ret))) (.skip))) (.seq (ycy) (.seq (ycx) (.seq (ycw) (.ret)))))):=zh T (F:=f179) (by kernel_rfl) (by kernel_rfl) (by kernel_rfl)
@[go_sem↓]theorem run179:RR yc2 [oo 2 (.assign (.const (.string ⟨#[]⟩)))]∧RR yc1 [oo 4 (oM 0),oo 5 (.nilCheck (.tmp 4)),oo 6 (oF 267 5 0),oo 7 (oL 60 6),oo 8 (oN 7 60),oo 9 (oC .eql 3 8 0),oo 10 (oM 9),of 11 (oM 0) 10,of 12 (.nilCheck (.tmp 11)) 10,of 13 (oF 267 12 0) 10,of 14 (oL 60 13) 10,of 15 (.indexAddr 60 (.tmp 14) (.const (.int .i64 0))) 10,of 16 (oL 9 15) 10,of 17 (.binOp .eql 9 (.tmp 16) (.const (.string ⟨#[]⟩)) 9) 10,oo 18 (.pick (.tmp 10) (.const (.bool true)) (.tmp 17))]∧RR yc0 [oo 19 (oM 0),oo 20 (oM 0),oo 21 (.nilCheck (.tmp 19)),oo 22 (oF 267 21 0),⟨none,.store 60 (.tmp 22) (.const (.slice none 0 0)),none⟩,oo 23 (.nilCheck (.tmp 20)),oo 24 (oF 267 23 1),⟨none,.store 4 (.tmp 24) (.const (.bool true)),none⟩]∧RR ycz [oo 2 (.assign (.const (.string ⟨#[]⟩)))]∧RR ycy [oo 25 (oM 0),oo 26 (.nilCheck (.tmp 25)),oo 27 (oF 267 26 0),oo 28 (oL 60 27),oo 29 (.indexAddr 60 (.tmp 28) (.const (.int .i64 0))),oo 30 (oL 9 29),oo 3 (oG 30)]∧RR ycx [oo 31 (oM 0),oo 32 (oM 0),oo 33 (.nilCheck (.tmp 32)),oo 34 (oF 267 33 0),oo 35 (oL 60 34),oo 36 (.slice 60 (.tmp 35) (some (.const (.int .i64 1))) none none),oo 37 (.nilCheck (.tmp 31)),oo 38 (oF 267 37 0),ow 60 38 36]∧RR ycw [oo 39 (oM 3),oo 2 (oG 39)]∧zu T 179 [.tmp 2] true:=by refine⟨zz T ?_,zz T ?_,zz T ?_,zz T ?_,zz T ?_,zz T ?_,zz T ?_,zf T (F:=f179) ?_ ?_ ?_⟩<;>kernel_rfl
def ycv:=nv 2 f180
def ycu:=nv 6 f180
def yct:=nv 14 f180
def ycs:=nv 60 f180
def zkd:=nv 244 f180
def ycr:=nv 488 f180
def ycq:=nv 3916 f180
def ycp:=nv 15668 f180
def yco:=nv 62676 f180
def ycn:=nv 125354 f180
def ycm:=nv 7835 f180
def zmm:=nv 62 f180
def zml:=nv 126 f180
theorem xgo:qq T 180 52 (.seq (ycv) (.seq (ycu) (.seq (yct) (.seq (.seq (ycs) (.block 0 (.loop zkd))) (.seq (zmm) (.seq (zml) (.ret))))))):=zh T (F:=f180) (by kernel_rfl) (by kernel_rfl) (by kernel_rfl)
@[go_sem↓]theorem run180:RR ycv [oo 2 (oi 0)]∧RR ycu [oo 7 (oM 0),oo 8 (o1 179 7 264),oo 3 (oG 8)]∧RR yct [oo 4 (oi 0)]∧RR ycs [oo 9 (oM 3),oo 10 (.range 9 (.tmp 9))]∧RR ycr [oo 11 (.next (.tmp 10) true),oo 12 (oX 11 0)]∧RR ycq [oo 13 (oX 11 2),oo 6 (oG 13)]∧RR ycp [oo 14 (oM 6),oo 15 (.binOp .lss 21 (.tmp 14) (.const (.int .i32 48)) 21),oo 16 (oM 15),of 17 (oM 6) 16,of 18 (.binOp .gtr 21 (.tmp 17) (.const (.int .i32 57)) 21) 16,oo 19 (.pick (.tmp 16) (.const (.bool true)) (.tmp 18)),oo 20 (oM 19),of 21 (oM 3) 20,of 22 (oN 21 9) 20,of 23 (oC .gtr 3 22 9) 20,oo 24 (.pick (.tmp 20) (.const (.bool true)) (.tmp 23))]∧RR yco [oo 25 (oM 0),oo 26 (.nilCheck (.tmp 25)),oo 27 (oF 267 26 1),⟨none,.store 4 (.tmp 27) (.const (.bool true)),none⟩]∧RR ycn [oo 2 (oi 0)]∧RR ycm [oo 28 (oM 4),oo 29 (.binOp .mul 3 (.const (.int .i64 10)) (.tmp 28) 3),oo 30 (oM 6),oo 31 (.binOp .sub 21 (.tmp 30) (.const (.int .i32 48)) 21),oo 32 (.convert 21 3 (.tmp 31)),oo 33 (oB .add 3 29 32),oo 4 (oG 33)]∧RI zkd (.seq (ycr) (.seq (.cond (.tmp 12) (.skip) (.exit 0)) (.block 1 (.seq (ycq) (.seq (.seq (ycp) (.cond (.tmp 24) (.seq (yco) (.seq (ycn) (.ret))) (.skip))) (ycm))))))∧z7 T 180 zkd [0,3,4,10]∧RR zmm [oo 34 (oM 0),oo 35 (oM 0),oo 36 (.nilCheck (.tmp 35)),oo 37 (oF 267 36 1),oo 38 (oL 4 37),oo 39 (oM 38),of 40 (oM 3) 39,of 41 (oN 40 9) 39,of 42 (oC .gtr 3 41 1) 39,of 43 (oM 42) 39,ot 44 (oM 3) 43,ot 45 (.index 9 (.tmp 44) (.const (.int .i64 0))) 43,ot 46 (.binOp .eql 5 (.tmp 45) (.const (.int .u8 48)) 5) 43,of 47 (.pick (.tmp 43) (.tmp 46) (.const (.bool false))) 39,oo 48 (.pick (.tmp 39) (.const (.bool true)) (.tmp 47)),oo 49 (.nilCheck (.tmp 34)),oo 50 (oF 267 49 1),ow 4 50 48]∧RR zml [oo 51 (oM 4),oo 2 (oG 51)]∧zu T 180 [.tmp 2] true:=by refine⟨zz T ?_,zz T ?_,zz T ?_,zz T ?_,zz T ?_,zz T ?_,zz T ?_,zz T ?_,zz T ?_,zz T ?_,zl T ?_,z8 T ?_,zz T ?_,zz T ?_,zf T (F:=f180) ?_ ?_ ?_⟩<;>kernel_rfl
@[go_sem]theorem ynq:x9 T 226 false (some ixV) false:=⟨by kernel_rfl,by kernel_rfl,by kernel_rfl⟩
@[go_sem]theorem res226:zd T 226 3:=zm T (F:=f226) (by kernel_rfl) (by kernel_rfl)
def zj1:=nv 4 f225
def zxr:=nv 16 f225
def zxq:=nv 36 f225
def zxp:=nv 148 f225
def zxo:=nv 298 f225
def zxn:=nv 598 f225
def zxm:=nv 599 f225
def zxl:=nv 150 f225
theorem xfy:qq T 225 25 (.block 0 (.loop zj1)):=zh T (F:=f225) (by kernel_rfl) (by kernel_rfl) (by kernel_rfl)
@[go_sem↓]theorem run225:RR zxr [oo 5 (oL 9 1),oo 6 (oN 5 9),oo 7 (oC .gtr 3 6 0)]∧RR zxq [oo 3 (.assign (.const (.string ⟨#[]⟩)))]∧RR zxp [oo 8 (oL 9 1),oo 9 (.call ⟨.value (.func 226),#[.tmp 8,.const (.int .u8 10)],#[9,5]⟩),oo 4 (oG 9)]∧RR zxo [oo 10 (oM 4),oo 11 (oC .geq 3 10 0)]∧RD zxn 225 [oo 12 (oL 9 1),oo 13 (oM 4),oo 14 (oC .add 3 13 1),oo 15 (.slice 9 (.tmp 12) none (some (.tmp 14)) none),oo 16 (oL 9 1),oo 17 (oM 4),oo 18 (oC .add 3 17 1),oo 19 (.slice 9 (.tmp 16) (some (.tmp 18)) none none),oo 3 (oG 15),ow 9 1 19] [(0,1),(0,2),(0,4),(1,4),(2,4),(3,4),(0,5),(1,5),(2,5),(3,5),(4,5),(0,6),(1,6),(2,6),(3,6),(4,6),(0,7),(1,7),(2,7),(3,7),(4,8),(5,8),(6,8),(7,8)]∧RR zxm [oo 20 (oL 9 1),oo 3 (oG 20),⟨none,.store 9 (.tmp 1) (.const (.string ⟨#[]⟩)),none⟩]∧RR zxl [oo 21 (oM 0),oo 22 (oM 3),oo 23 (.call ⟨.value (.tmp 21),#[.tmp 22],#[9]⟩),oo 24 (.unOp .not 4 (.tmp 23))]∧RI zj1 (.seq (.seq (zxr) (.cond (.tmp 7) (.skip) (.exit 0))) (.block 1 (.seq (zxq) (.seq (.seq (zxp) (.seq (zxo) (.cond (.tmp 11) (zxn) (zxm)))) (.seq (zxl) (.cond (.tmp 24) (.ret) (.skip)))))))∧z7 T 225 zj1 [0,1]∧zu T 225 [] true:=by refine⟨zz T ?_,zz T ?_,zz T ?_,zz T ?_,xt T (id:=4) ?_ ?_,zz T ?_,zz T ?_,zl T ?_,z8 T ?_,zf T (F:=f225) ?_ ?_ ?_⟩<;>kernel_rfl
@[go_sem]theorem fr243:x9 T 243 false none false∧zd T 243 4:=by refine⟨⟨?_,?_,?_⟩,zm T (F:=f243) ?_ ?_⟩<;>kernel_rfl
def zxk:=nv 2 f227
def zxj:=nv 12 f227
def zxi:=nv 52 f227
def zxh:=nv 14 f227
theorem yob:qq T 227 18 (.seq (zxk) (.seq (.seq (zxj) (.cond (.tmp 9) (.seq (zxi) (.ret)) (.skip))) (.seq (zxh) (.ret)))):=zh T (F:=f227) (by kernel_rfl) (by kernel_rfl) (by kernel_rfl)
@[go_sem↓]theorem run227:RR zxk [oo 4 (.assign (.const (.string ⟨#[]⟩))),oo 5 (.assign (.const (.bool false)))]∧RR zxj [oo 6 (oM 0),oo 7 (oM 1),oo 8 (o2 243 6 7 9 9),oo 9 (.unOp .not 4 (.tmp 8))]∧RR zxi [oo 10 (oM 0),oo 4 (oG 10),oo 5 (.assign (.const (.bool false)))]∧RR zxh [oo 11 (oM 0),oo 12 (oM 0),oo 13 (oN 12 9),oo 14 (oM 1),oo 15 (oN 14 9),oo 16 (oB .sub 3 13 15),oo 17 (.slice 9 (.tmp 11) none (some (.tmp 16)) none),oo 4 (oG 17),oo 5 (.assign (.const (.bool true)))]∧zu T 227 [.tmp 4,.tmp 5] false:=by refine⟨zz T ?_,zz T ?_,zz T ?_,zz T ?_,zf T (F:=f227) ?_ ?_ ?_⟩<;>kernel_rfl
@[go_sem]theorem ynp:x9 T 245 false (some zc0) false:=⟨by kernel_rfl,by kernel_rfl,by kernel_rfl⟩
@[go_sem]theorem res245:zd T 245 3:=zm T (F:=f245) (by kernel_rfl) (by kernel_rfl)
@[go_sem]theorem yno:x9 T 246 false (some zcm) false:=⟨by kernel_rfl,by kernel_rfl,by kernel_rfl⟩
@[go_sem]theorem res246:zd T 246 3:=zm T (F:=f246) (by kernel_rfl) (by kernel_rfl)
def zxg:=nv 2 f228
def zxf:=nv 12 f228
def zw7:=nv 52 f228
def zw6:=nv 28 f228
def zw5:=nv 116 f228
def zw4:=nv 60 f228
def zw3:=nv 122 f228
def zw2:=nv 62 f228
def zw1:=nv 126 f228
def zw0:=nv 254 f228
def zxe:=nv 510 f228
def zj0:=nv 4088 f228
def zxd:=nv 16352 f228
def zxc:=nv 32708 f228
def zxb:=nv 130836 f228
def zxa:=nv 130838 f228
def zw9:=nv 261678 f228
def zw8:=nv 261679 f228
def zl7:=nv 2046 f228
def zl6:=nv 4094 f228
theorem xfx:qq T 228 66 (.seq (zxg) (.seq (.seq (zxf) (.cond (.tmp 13) (.seq (zw7) (.ret)) (.skip))) (.seq (.seq (zw6) (.cond (.tmp 15) (.seq (zw5) (.ret)) (.skip))) (.seq (.seq (zw4) (.cond (.tmp 20) (zw3) (.skip))) (.seq (zw2) (.seq (zw1) (.seq (zw0) (.seq (zxe) (.seq (.block 0 (.loop zj0)) (.seq (zl7) (.seq (zl6) (.ret)))))))))))):=zh T (F:=f228) (by kernel_rfl) (by kernel_rfl) (by kernel_rfl)
@[go_sem↓]theorem run228:RR zxg [oo 8 on]∧RR zxf [oo 12 (oM 3),oo 13 (oC .eql 3 12 0)]∧RR zw7 [oo 8 on]∧RR zw6 [oo 14 (oM 1),oo 15 (.binOp .eql 9 (.tmp 14) (.const (.string ⟨#[]⟩)) 9)]∧RR zw5 [oo 16 (oM 0),oo 17 (oM 3),oo 18 (o2 244 16 17 9 3),oo 8 (oG 18)]∧RR zw4 [oo 19 (oM 3),oo 20 (oC .lss 3 19 0)]∧RR zw3 [oo 21 (oM 0),oo 22 (oM 1),oo 23 (o2 245 21 22 9 9),oo 24 (oC .add 3 23 1),oo 3 (oG 24)]∧RR zw2 [oo 25 (oM 3),oo 26 (oM 0),oo 27 (oN 26 9),oo 28 (oC .add 3 27 1),oo 29 (.call ⟨.builtin .min,#[.tmp 25,.tmp 28],#[3,3]⟩),oo 3 (oG 29)]∧RR zw1 [oo 30 (oM 3),oo 31 (.makeSlice 60 (.tmp 30) (.tmp 30)),oo 9 (oG 31)]∧RR zw0 [oo 32 (oM 3),oo 33 (oC .sub 3 32 1),oo 3 (oG 33)]∧RR zxe [oo 10 (oi 0)]∧RR zxd [oo 34 (oM 10),oo 35 (oM 3),oo 36 (oB .lss 3 34 35)]∧RR zxc [oo 37 (oM 0),oo 38 (oM 1),oo 39 (o2 246 37 38 9 9),oo 11 (oG 39)]∧RR zxb [oo 40 (oM 11),oo 41 (oC .lss 3 40 0)]∧RR zxa [oo 42 (oM 9),oo 43 (oM 10),oo 44 (oM 0),oo 45 (oM 11),oo 46 (oM 2),oo 47 (oB .add 3 45 46),oo 48 (.slice 9 (.tmp 44) none (some (.tmp 47)) none),oo 49 (oI 60 42 43),ow 9 49 48]∧RR zw9 [oo 50 (oM 0),oo 51 (oM 11),oo 52 (oM 1),oo 53 (oN 52 9),oo 54 (oB .add 3 51 53),oo 55 (.slice 9 (.tmp 50) (some (.tmp 54)) none none),oo 0 (oG 55)]∧RR zw8 [oo 56 (oM 10),oo 57 (oC .add 3 56 1),oo 10 (oG 57)]∧RI zj0 (.seq (.seq (zxd) (.cond (.tmp 36) (.skip) (.exit 0))) (.block 1 (.seq (zxc) (.seq (.seq (zxb) (.cond (.tmp 41) (.exit 0) (.skip))) (.seq (zxa) (.seq (zw9) (zw8)))))))∧z7 T 228 zj0 [0,1,2,3,9,10]∧RR zl7 [oo 58 (oM 9),oo 59 (oM 10),oo 60 (oM 0),oo 61 (oI 60 58 59),ow 9 61 60]∧RR zl6 [oo 62 (oM 9),oo 63 (oM 10),oo 64 (oC .add 3 63 1),oo 65 (.slice 60 (.tmp 62) none (some (.tmp 64)) none),oo 8 (oG 65)]∧zu T 228 [.tmp 8] false:=by refine⟨zz T ?_,zz T ?_,zz T ?_,zz T ?_,zz T ?_,zz T ?_,zz T ?_,zz T ?_,zz T ?_,zz T ?_,zz T ?_,zz T ?_,zz T ?_,zz T ?_,zz T ?_,zz T ?_,zz T ?_,zl T ?_,z8 T ?_,zz T ?_,zz T ?_,zf T (F:=f228) ?_ ?_ ?_⟩<;>kernel_rfl
def zv2:=nv 2 f243
def zv1:=nv 6 f243
theorem yoa:qq T 243 21 (.seq (zv2) (.seq (zv1) (.ret))):=zh T (F:=f243) (by kernel_rfl) (by kernel_rfl) (by kernel_rfl)
@[go_sem↓]theorem run243:RR zv2 [oo 4 (.assign (.const (.bool false)))]∧RR zv1 [oo 5 (oM 0),oo 6 (oN 5 9),oo 7 (oM 1),oo 8 (oN 7 9),oo 9 (oB .geq 3 6 8),oo 10 (oM 9),ot 11 (oM 0) 10,ot 12 (oM 0) 10,ot 13 (oN 12 9) 10,ot 14 (oM 1) 10,ot 15 (oN 14 9) 10,ot 16 (oB .sub 3 13 15) 10,ot 17 (.slice 9 (.tmp 11) (some (.tmp 16)) none none) 10,ot 18 (oM 1) 10,ot 19 (oB .eql 9 17 18) 10,oo 20 (.pick (.tmp 10) (.tmp 19) (.const (.bool false))),oo 4 (oG 20)]∧zu T 243 [.tmp 4] false:=by refine⟨zz T ?_,zz T ?_,zf T (F:=f243) ?_ ?_ ?_⟩<;>kernel_rfl
end Go.Den.FaT
end
