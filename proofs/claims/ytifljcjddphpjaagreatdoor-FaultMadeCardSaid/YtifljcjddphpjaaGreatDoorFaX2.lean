import Derived.Test.YtifljcjddphpjaaGreatDoorFaS1
import Derived.Test.YtifljcjddphpjaaGreatDoorFaS0
import Derived.Test.YtifljcjddphpjaaGreatDoorZR
import Derived.Test.YtifljcjddphpjaaGreatDoorFaX1
set_option linter.all false
set_option maxHeartbeats 8000000
set_option maxRecDepth 100000
noncomputable section
namespace Go.Den.FaU
open Go Go.Proofs Go.Den Go.Den.FaT
theorem nums : IntKind.i64.wrap 1 = 1 ∧ IntKind.i64.wrap 2 = 2 ∧ IntKind.i64.wrap 3 = 3 ∧ IntKind.i64.wrap 4 = 4 ∧ IntKind.i64.wrap 5 = 5 ∧ IntKind.i64.wrap 6 = 6 ∧ IntKind.i64.wrap 7 = 7 ∧ IntKind.i64.wrap 8 = 8 ∧ IntKind.i64.wrap 9 = 9 ∧ decide (1 < maxRow) = true ∧ decide (2 < maxRow) = true ∧ decide (3 < maxRow) = true ∧ decide (4 < maxRow) = true ∧ decide (5 < maxRow) = true ∧ decide (6 < maxRow) = true ∧ decide (7 < maxRow) = true ∧ decide (8 < maxRow) = true ∧ decide (9 < maxRow) = true := by decide
@[go_sem] theorem callP_d {ih : Ih} {f : Nat} {args : List V} {k : V → Prog} (h : FaU.T.byref f = false) (h' : FaU.T.prim f = some (den2 FaT.T f)) : callP ih FaU.T f args k = stowLP FaU.T args fun args => needP (!yldL args) <| optP (den2 FaT.T f args) fun v => toP (resK FaU.T f v fun v => some (k v)) := by
  unfold callP
  rw [h]
  simp only [h']
attribute [go_sem] shArgs shD
@[go_sem] theorem e2_16 (vs : List V) : den2 FaT.T 16 vs = shArgs FaT.T [] vs fun r => need (pureL r) (den FaT.T 16 r) := den2_eq (fn := Tryz.f16) (by kernel_rfl) (by kernel_rfl) vs
@[go_sem] theorem e2_17 (vs : List V) : den2 FaT.T 17 vs = shArgs FaT.T [34] vs fun r => need (pureL r) (den FaT.T 17 r) := den2_eq (fn := Tryz.f17) (by kernel_rfl) (by kernel_rfl) vs
@[go_sem] theorem e2_18 (vs : List V) : den2 FaT.T 18 vs = shArgs FaT.T [25] vs fun r => need (pureL r) (den FaT.T 18 r) := den2_eq (fn := Tryz.f18) (by kernel_rfl) (by kernel_rfl) vs
@[go_sem] theorem e2_19 (vs : List V) : den2 FaT.T 19 vs = shArgs FaT.T [34] vs fun r => need (pureL r) (den FaT.T 19 r) := den2_eq (fn := Tryz.f19) (by kernel_rfl) (by kernel_rfl) vs
@[go_sem] theorem e2_20 (vs : List V) : den2 FaT.T 20 vs = shArgs FaT.T [25] vs fun r => need (pureL r) (den FaT.T 20 r) := den2_eq (fn := Tryz.f20) (by kernel_rfl) (by kernel_rfl) vs
@[go_sem] theorem e2_27 (vs : List V) : den2 FaT.T 27 vs = shArgs FaT.T [28] vs fun r => need (pureL r) (den FaT.T 27 r) := den2_eq (fn := Tryz.f27) (by kernel_rfl) (by kernel_rfl) vs
@[go_sem] theorem e2_29 (vs : List V) : den2 FaT.T 29 vs = shArgs FaT.T [34, 28] vs fun r => need (pureL r) (den FaT.T 29 r) := den2_eq (fn := Tryz.f29) (by kernel_rfl) (by kernel_rfl) vs
@[go_sem] theorem e2_86 (vs : List V) : den2 FaT.T 86 vs = shArgs FaT.T [3] vs fun r => need (pureL r) (den FaT.T 86 r) := den2_eq (fn := Tryz.f86) (by kernel_rfl) (by kernel_rfl) vs
@[go_sem] theorem e2_87 (vs : List V) : den2 FaT.T 87 vs = shArgs FaT.T [3, 3] vs fun r => need (pureL r) (den FaT.T 87 r) := den2_eq (fn := Tryz.f87) (by kernel_rfl) (by kernel_rfl) vs
@[go_sem] theorem e2_89 (vs : List V) : den2 FaT.T 89 vs = shArgs FaT.T [28, 28] vs fun r => need (pureL r) (den FaT.T 89 r) := den2_eq (fn := Tryz.f89) (by kernel_rfl) (by kernel_rfl) vs
end Go.Den.FaU
namespace Go.Den.FaT
open Go Go.Proofs Go.Den
theorem c27 (b : Bool) (l : List Int) (hl : l.length < 1000000) : (lim T).call 27 [.sl b 1 (l.map intV)] [] 0 [] = some (.sl true 1 (l.map intV), [], 0, []) := by
  rw [ent27]
  cases l with
  | nil => simp -implicitDefEqProofs only [go_sem, simprocAttr]
  | cons p l =>
    have h8 := (row_ok (n := l.length) (by simp at hl; omega)).1
    simp -implicitDefEqProofs only [go_sem, simprocAttr, h8]
def knE (k : Nat) (i : Int) : Int := cond (decide (i < 0) || decide ((k : Int) ≤ i)) 10 0
theorem c192 (p : Pk) (i : Int) : (lim T).call 192 [.int .i64 i, .pp 3 [pkV p] 0 0] [] 0 [] = some (.int .i64 (knE p.c.length i), [], 0, []) := by
  rw [ent192]
  unfold knE
  cases h : decide (i < 0)
  · simp -implicitDefEqProofs only [go_sem, simprocAttr, pkV, h, c115, Bool.false_or]
  · simp -implicitDefEqProofs only [go_sem, simprocAttr, pkV, h, c115, Bool.true_or]
theorem loop116k (p : Pk) (b : Bool) (l : List (Int)) (hb : l.length < 1000000) : ∀ i, i ≤ l.length → ∀ o : Option (List (Int)), acL o = i →
    (lim T).loop false [.code (.loop b116_0), .inBlock 0, .code (.seq r116_7 .ret)] ⟨116, 22, 0, [(1, .fn 192 [.pp 3 [pkV p] 0 0]), (5, acV o 0), (8, .sl b 1 (l.map intV)), (9, .int .i64 l.length), (10, .int .i64 i)], acR intV o 29, 0, []⟩ =
      some (.ret (acO intV 0 1 (acA o ((l.drop i).map (fun i => knE p.c.length i)))), [], 0, []) := by
  refine down_ind l.length ?_ fun i hi ih o ho => ?_
  · intro o ho
    rw [loopEq]
    have h1 := idx_out l.length
    cases o with
    | none =>
      simp -implicitDefEqProofs only [go_sem, simprocAttr, h1]
      simp [acA, acO]
    | some a =>
      simp -implicitDefEqProofs only [go_sem, simprocAttr, h1]
      simp [acA, acO]
  · obtain ⟨h1, h2, h3, h4, h5⟩ := idx_in hi (by omega)
    rw [loopEq, h5]
    have ih' := ih (acA o [((fun i => knE p.c.length i) l[i])]) (by rw [acL_A, ho]; rfl)
    rw [acA_acA] at ih'
    dsimp only at ih'
    cases o with
    | none =>
      have h8 := row_ok (n := 0) (by omega)
      simp only [acA_n, acV_s, acR_s, List.map_cons, List.map_nil, intV] at ih'
      simp -implicitDefEqProofs only [go_sem, simprocAttr, h1, h2, h3, h4, ih', h8.2, c192]
    | some a =>
      have h9 : a.length = i := ho
      have h8 := (row_ok (n := a.length) (by omega)).1
      simp only [acA_s, acV_s, acR_s, List.map_append, List.map_cons, List.map_nil, intV] at ih'
      simp -implicitDefEqProofs only [go_sem, simprocAttr, h1, h2, h3, h4, ih', h8, c192]
theorem c116k (p : Pk) (b : Bool) (l : List (Int)) (hb : l.length < 1000000) : (lim T).call 116 [.sl b 1 (l.map intV), .fn 192 [.pp 3 [pkV p] 0 0]] [] 0 [] = some (slV 1 (((l).map (fun i => knE p.c.length i)).map intV), [], 0, []) := by
  rw [ent116]
  have h := loop116k p b l hb  0 (by omega) none rfl
  rw [show ((0 : Nat) : Int) = 0 from rfl, List.drop_zero, acO_slV] at h
  simp only [acV_n, acR_n] at h
  simp -implicitDefEqProofs only [go_sem, simprocAttr, h]
def ascF : List Int → Int
  | x :: y :: r => if y ≤ x then 11 else ascF (y :: r)
  | _ => 0
theorem ascF_1 (x : Int) : ascF [x] = 0 := rfl
theorem loop193 (b : Bool) (l : List Int) (hb : l.length < 1000000) : ∀ i, i ≤ l.length → 1 ≤ i → (lim T).loop false [.code (.loop b193_0), .inBlock 0, .code (.seq r193_6 .ret)] ⟨193, 20, 0, [(0, .sl b 1 (l.map intV)), (3, .int .i64 i)], [], 0, []⟩ = some (.ret (.int .i64 (ascF (l.drop (i - 1)))), [], 0, []) := by
  refine down_ind l.length ?_ fun i hi ih h1i => ?_
  · intro h1i
    rw [loopEq]
    have h1 := idx_out l.length
    rw [List.drop_eq_getElem_cons (by omega), List.drop_of_length_le (by omega), ascF_1]
    simp -implicitDefEqProofs only [go_sem, simprocAttr, h1]
  · obtain ⟨h1, h2, h3, h4, h5⟩ := idx_in hi (by omega)
    obtain ⟨g1, g2, g3, g4, g5⟩ := idx_in (l := l) (i := i - 1) (by omega) (by omega)
    have w : IntKind.i64.wrap ((i : Int) - 1) = ((i - 1 : Nat) : Int) := by rw [wrap64] <;> omega
    have e : l.drop (i - 1) = l[i - 1] :: l[i] :: l.drop (i + 1) := by
      rw [List.drop_eq_getElem_cons (by omega), show i - 1 + 1 = i by omega, h5]
    have ih' := ih (by omega)
    rw [show i + 1 - 1 = i by omega, h5] at ih'
    rw [e, loopEq]
    simp only [ascF]
    cases h6 : decide (l[i] ≤ l[i - 1])
    · have h7 : ¬ l[i] ≤ l[i - 1] := by simpa using h6
      rw [if_neg h7]
      simp -implicitDefEqProofs only [go_sem, simprocAttr, h1, h2, h3, h4, g2, g3, w, h6, ih']
    · have h7 : l[i] ≤ l[i - 1] := by simpa using h6
      rw [if_pos h7]
      simp -implicitDefEqProofs only [go_sem, simprocAttr, h1, h2, h3, h4, g2, g3, w, h6]
theorem c193 (b : Bool) (l : List Int) (hb : l.length < 1000000) : (lim T).call 193 [.sl b 1 (l.map intV)] [] 0 [] = some (.int .i64 (ascF l), [], 0, []) := by
  rw [ent193]
  cases l with
  | nil =>
    simp -implicitDefEqProofs only [go_sem, simprocAttr]
    rw [loopEq]
    simp -implicitDefEqProofs only [go_sem, simprocAttr]
    rfl
  | cons x r =>
    have h := loop193 b (x :: r) hb 1 (by simp) (by omega)
    rw [show ((1 : Nat) : Int) = 1 from rfl, Nat.sub_self, List.drop_zero] at h
    simp -implicitDefEqProofs only [go_sem, simprocAttr]
    simp only [List.map_cons, intV] at h
    simp -implicitDefEqProofs only [go_sem, simprocAttr, h]
def ckSt (n : Nat) (l : List Int) : Int := fnz [fnz (l.map fun i => knE n i), ascF l]
theorem fnz_02 {a b : Int} (h : a = 0) : fnz [a, b] = b := by
  simp only [fnz, h, if_true]
  by_cases hb : b = 0 <;> simp [hb]
theorem c122 (p : Pk) (b : Bool) (l : List Int) (hf : p.fit) (hb : l.length < 1000000) : (lim T).call 122 [pkV p, .sl b 1 (l.map intV)] [] 0 [] = some (.int .i64 (fnz [ckPk p, ckSt p.c.length l]), [], 0, []) := by
  rw [ent122]
  have e1 := c23 p hf
  have e2 := c116k p b l hb
  have e3 := fun b => c114 b (l.map fun i => knE p.c.length i) (by simp; omega)
  have t1 : List.map intV (List.map (fun i => knE p.c.length i) l) = List.map (fun n => V.int .i64 n) (List.map (fun i => knE p.c.length i) l) := rfl
  rw [t1] at e2
  have e4 := c193 b l hb
  have e5 := c114_2 true (fnz (l.map fun i => knE p.c.length i)) (ascF l)
  rw [show fnz [fnz (l.map fun i => knE p.c.length i), ascF l] = ckSt p.c.length l from rfl] at e5
  simp only [pkV] at e1 e2
  cases h : (ckPk p != 0)
  · have h0 : ckPk p = 0 := by simpa using h
    rw [fnz_02 h0]
    simp -implicitDefEqProofs only [go_sem, simprocAttr, pkV, e1, e2, e3, e4, e5, h]
  · have h0 : ¬ ckPk p = 0 := by simpa using h
    simp -implicitDefEqProofs only [go_sem, simprocAttr, pkV, e1, h]
    simp [fnz, h0]
def ptV (x : Int × Int) : V := .agg [.int .i64 x.1, .int .i64 x.2]
attribute [go_sem] ptV
def z0 (s : Nat) : List (Int × Int) := List.replicate s (0, 0)
theorem rep_z0 (s : Nat) : List.replicate s (V.agg [.int .i64 0, .int .i64 0]) = (z0 s).map ivV := by
  unfold z0; rw [List.map_replicate]; rfl
theorem c195 (r : Bool × List Int) (hr : r.2.length < 1000) : (lim T).call 195 [.sl r.1 1 (r.2.map intV)] [] 0 [] = some (.ref 0, [.cells false true 142 ((z0 r.2.length).map ivV)], 0, []) := by
  rw [ent195]
  have d1 : decide (0 ≤ (r.2.length : Int) ∧ (r.2.length : Int) ≤ (r.2.length : Int) ∧ (r.2.length : Int) < (maxRow : Int)) = true := decide_eq_true ⟨by omega, by omega, by unfold maxRow; omega⟩
  simp -implicitDefEqProofs only [go_sem, simprocAttr, d1, rep_z0]
theorem rok (n : Nat) (h : n < 10) : decide (n + 1 < maxRow) = true := (row_ok (by omega)).1
theorem c194_1 (b : Bool) (r1 : Bool × List Int) (hr1 : r1.2.length < 1000) : (lim T).call 194 [.sl b 1 [.sl r1.1 1 (r1.2.map intV)], .fn 195 []] [] 0 [] = some (.ref 0, [.cells false false 72 [.ref 1], .cells false true 142 ((z0 r1.2.length).map ivV)], 0, []) := by
  rw [ent194]
  simp -implicitDefEqProofs only [go_sem, simprocAttr]
  iterate 1
    rw [loopEq]
    simp -implicitDefEqProofs only [go_sem, simprocAttr, c195, hr1, (row_ok (n := 0) (by omega)).2, wrap64, Int.reduceAdd]
  rw [loopEq]
  simp -implicitDefEqProofs only [go_sem, simprocAttr]
theorem c194_2 (b : Bool) (r1 r2 : Bool × List Int) (hr1 : r1.2.length < 1000) (hr2 : r2.2.length < 1000) : (lim T).call 194 [.sl b 1 [.sl r1.1 1 (r1.2.map intV), .sl r2.1 1 (r2.2.map intV)], .fn 195 []] [] 0 [] = some (.ref 0, [.cells false false 72 [.ref 1, .ref 2], .cells false true 142 ((z0 r1.2.length).map ivV), .cells false true 142 ((z0 r2.2.length).map ivV)], 0, []) := by
  rw [ent194]
  simp -implicitDefEqProofs only [go_sem, simprocAttr]
  iterate 2
    rw [loopEq]
    simp -implicitDefEqProofs only [go_sem, simprocAttr, c195, hr1, hr2, (row_ok (n := 0) (by omega)).2, rok 1 (by omega), wrap64, Int.reduceAdd]
  rw [loopEq]
  simp -implicitDefEqProofs only [go_sem, simprocAttr]
theorem c194_3 (b : Bool) (r1 r2 r3 : Bool × List Int) (hr1 : r1.2.length < 1000) (hr2 : r2.2.length < 1000) (hr3 : r3.2.length < 1000) : (lim T).call 194 [.sl b 1 [.sl r1.1 1 (r1.2.map intV), .sl r2.1 1 (r2.2.map intV), .sl r3.1 1 (r3.2.map intV)], .fn 195 []] [] 0 [] = some (.ref 0, [.cells false false 72 [.ref 1, .ref 2, .ref 3], .cells false true 142 ((z0 r1.2.length).map ivV), .cells false true 142 ((z0 r2.2.length).map ivV), .cells false true 142 ((z0 r3.2.length).map ivV)], 0, []) := by
  rw [ent194]
  simp -implicitDefEqProofs only [go_sem, simprocAttr]
  iterate 3
    rw [loopEq]
    simp -implicitDefEqProofs only [go_sem, simprocAttr, c195, hr1, hr2, hr3, (row_ok (n := 0) (by omega)).2, rok 1 (by omega), rok 2 (by omega), wrap64, Int.reduceAdd]
  rw [loopEq]
  simp -implicitDefEqProofs only [go_sem, simprocAttr]
theorem c194_4 (b : Bool) (r1 r2 r3 r4 : Bool × List Int) (hr1 : r1.2.length < 1000) (hr2 : r2.2.length < 1000) (hr3 : r3.2.length < 1000) (hr4 : r4.2.length < 1000) : (lim T).call 194 [.sl b 1 [.sl r1.1 1 (r1.2.map intV), .sl r2.1 1 (r2.2.map intV), .sl r3.1 1 (r3.2.map intV), .sl r4.1 1 (r4.2.map intV)], .fn 195 []] [] 0 [] = some (.ref 0, [.cells false false 72 [.ref 1, .ref 2, .ref 3, .ref 4], .cells false true 142 ((z0 r1.2.length).map ivV), .cells false true 142 ((z0 r2.2.length).map ivV), .cells false true 142 ((z0 r3.2.length).map ivV), .cells false true 142 ((z0 r4.2.length).map ivV)], 0, []) := by
  rw [ent194]
  simp -implicitDefEqProofs only [go_sem, simprocAttr]
  iterate 4
    rw [loopEq]
    simp -implicitDefEqProofs only [go_sem, simprocAttr, c195, hr1, hr2, hr3, hr4, (row_ok (n := 0) (by omega)).2, rok 1 (by omega), rok 2 (by omega), rok 3 (by omega), wrap64, Int.reduceAdd]
  rw [loopEq]
  simp -implicitDefEqProofs only [go_sem, simprocAttr]
theorem c194_5 (b : Bool) (r1 r2 r3 r4 r5 : Bool × List Int) (hr1 : r1.2.length < 1000) (hr2 : r2.2.length < 1000) (hr3 : r3.2.length < 1000) (hr4 : r4.2.length < 1000) (hr5 : r5.2.length < 1000) : (lim T).call 194 [.sl b 1 [.sl r1.1 1 (r1.2.map intV), .sl r2.1 1 (r2.2.map intV), .sl r3.1 1 (r3.2.map intV), .sl r4.1 1 (r4.2.map intV), .sl r5.1 1 (r5.2.map intV)], .fn 195 []] [] 0 [] = some (.ref 0, [.cells false false 72 [.ref 1, .ref 2, .ref 3, .ref 4, .ref 5], .cells false true 142 ((z0 r1.2.length).map ivV), .cells false true 142 ((z0 r2.2.length).map ivV), .cells false true 142 ((z0 r3.2.length).map ivV), .cells false true 142 ((z0 r4.2.length).map ivV), .cells false true 142 ((z0 r5.2.length).map ivV)], 0, []) := by
  rw [ent194]
  simp -implicitDefEqProofs only [go_sem, simprocAttr]
  iterate 5
    rw [loopEq]
    simp -implicitDefEqProofs only [go_sem, simprocAttr, c195, hr1, hr2, hr3, hr4, hr5, (row_ok (n := 0) (by omega)).2, rok 1 (by omega), rok 2 (by omega), rok 3 (by omega), rok 4 (by omega), wrap64, Int.reduceAdd]
  rw [loopEq]
  simp -implicitDefEqProofs only [go_sem, simprocAttr]
theorem c194_6 (b : Bool) (r1 r2 r3 r4 r5 r6 : Bool × List Int) (hr1 : r1.2.length < 1000) (hr2 : r2.2.length < 1000) (hr3 : r3.2.length < 1000) (hr4 : r4.2.length < 1000) (hr5 : r5.2.length < 1000) (hr6 : r6.2.length < 1000) : (lim T).call 194 [.sl b 1 [.sl r1.1 1 (r1.2.map intV), .sl r2.1 1 (r2.2.map intV), .sl r3.1 1 (r3.2.map intV), .sl r4.1 1 (r4.2.map intV), .sl r5.1 1 (r5.2.map intV), .sl r6.1 1 (r6.2.map intV)], .fn 195 []] [] 0 [] = some (.ref 0, [.cells false false 72 [.ref 1, .ref 2, .ref 3, .ref 4, .ref 5, .ref 6], .cells false true 142 ((z0 r1.2.length).map ivV), .cells false true 142 ((z0 r2.2.length).map ivV), .cells false true 142 ((z0 r3.2.length).map ivV), .cells false true 142 ((z0 r4.2.length).map ivV), .cells false true 142 ((z0 r5.2.length).map ivV), .cells false true 142 ((z0 r6.2.length).map ivV)], 0, []) := by
  rw [ent194]
  simp -implicitDefEqProofs only [go_sem, simprocAttr]
  iterate 6
    rw [loopEq]
    simp -implicitDefEqProofs only [go_sem, simprocAttr, c195, hr1, hr2, hr3, hr4, hr5, hr6, (row_ok (n := 0) (by omega)).2, rok 1 (by omega), rok 2 (by omega), rok 3 (by omega), rok 4 (by omega), rok 5 (by omega), wrap64, Int.reduceAdd]
  rw [loopEq]
  simp -implicitDefEqProofs only [go_sem, simprocAttr]
theorem c194_7 (b : Bool) (r1 r2 r3 r4 r5 r6 r7 : Bool × List Int) (hr1 : r1.2.length < 1000) (hr2 : r2.2.length < 1000) (hr3 : r3.2.length < 1000) (hr4 : r4.2.length < 1000) (hr5 : r5.2.length < 1000) (hr6 : r6.2.length < 1000) (hr7 : r7.2.length < 1000) : (lim T).call 194 [.sl b 1 [.sl r1.1 1 (r1.2.map intV), .sl r2.1 1 (r2.2.map intV), .sl r3.1 1 (r3.2.map intV), .sl r4.1 1 (r4.2.map intV), .sl r5.1 1 (r5.2.map intV), .sl r6.1 1 (r6.2.map intV), .sl r7.1 1 (r7.2.map intV)], .fn 195 []] [] 0 [] = some (.ref 0, [.cells false false 72 [.ref 1, .ref 2, .ref 3, .ref 4, .ref 5, .ref 6, .ref 7], .cells false true 142 ((z0 r1.2.length).map ivV), .cells false true 142 ((z0 r2.2.length).map ivV), .cells false true 142 ((z0 r3.2.length).map ivV), .cells false true 142 ((z0 r4.2.length).map ivV), .cells false true 142 ((z0 r5.2.length).map ivV), .cells false true 142 ((z0 r6.2.length).map ivV), .cells false true 142 ((z0 r7.2.length).map ivV)], 0, []) := by
  rw [ent194]
  simp -implicitDefEqProofs only [go_sem, simprocAttr]
  iterate 7
    rw [loopEq]
    simp -implicitDefEqProofs only [go_sem, simprocAttr, c195, hr1, hr2, hr3, hr4, hr5, hr6, hr7, (row_ok (n := 0) (by omega)).2, rok 1 (by omega), rok 2 (by omega), rok 3 (by omega), rok 4 (by omega), rok 5 (by omega), rok 6 (by omega), wrap64, Int.reduceAdd]
  rw [loopEq]
  simp -implicitDefEqProofs only [go_sem, simprocAttr]
theorem c194_8 (b : Bool) (r1 r2 r3 r4 r5 r6 r7 r8 : Bool × List Int) (hr1 : r1.2.length < 1000) (hr2 : r2.2.length < 1000) (hr3 : r3.2.length < 1000) (hr4 : r4.2.length < 1000) (hr5 : r5.2.length < 1000) (hr6 : r6.2.length < 1000) (hr7 : r7.2.length < 1000) (hr8 : r8.2.length < 1000) : (lim T).call 194 [.sl b 1 [.sl r1.1 1 (r1.2.map intV), .sl r2.1 1 (r2.2.map intV), .sl r3.1 1 (r3.2.map intV), .sl r4.1 1 (r4.2.map intV), .sl r5.1 1 (r5.2.map intV), .sl r6.1 1 (r6.2.map intV), .sl r7.1 1 (r7.2.map intV), .sl r8.1 1 (r8.2.map intV)], .fn 195 []] [] 0 [] = some (.ref 0, [.cells false false 72 [.ref 1, .ref 2, .ref 3, .ref 4, .ref 5, .ref 6, .ref 7, .ref 8], .cells false true 142 ((z0 r1.2.length).map ivV), .cells false true 142 ((z0 r2.2.length).map ivV), .cells false true 142 ((z0 r3.2.length).map ivV), .cells false true 142 ((z0 r4.2.length).map ivV), .cells false true 142 ((z0 r5.2.length).map ivV), .cells false true 142 ((z0 r6.2.length).map ivV), .cells false true 142 ((z0 r7.2.length).map ivV), .cells false true 142 ((z0 r8.2.length).map ivV)], 0, []) := by
  rw [ent194]
  simp -implicitDefEqProofs only [go_sem, simprocAttr]
  iterate 8
    rw [loopEq]
    simp -implicitDefEqProofs only [go_sem, simprocAttr, c195, hr1, hr2, hr3, hr4, hr5, hr6, hr7, hr8, (row_ok (n := 0) (by omega)).2, rok 1 (by omega), rok 2 (by omega), rok 3 (by omega), rok 4 (by omega), rok 5 (by omega), rok 6 (by omega), rok 7 (by omega), wrap64, Int.reduceAdd]
  rw [loopEq]
  simp -implicitDefEqProofs only [go_sem, simprocAttr]
def add2 (a b : Int × Int) : Int × Int := (IntKind.i64.wrap (a.1 + b.1), IntKind.i64.wrap (a.2 + b.2))
def nst (n : Nat) : List V := (List.range n).map fun k => .ref (k + 2)
def L123i (p : Pk) (R : List (List (Int × Int))) (sb : Bool) (z : Nat) (st : List Int) (t : Nat) (c : Cz) (k : Nat) : Option Out :=
  (lim T).loop false [.code (.loop b123_1), .inBlock 2, .inBlock 1, .code r123_12, .inLoop b123_0, .inBlock 0, .code (.seq r123_13 .ret)]
    ⟨123, 64, 0, [(2, .ptr 0 0 0), (5, .ref 1), (8, .ptr (R.length + 2) 0 0), (14, .sl sb z (st.map intV)), (15, .int .i64 st.length), (16, .int .i64 t), (26, .sl c.b 2 (c.l.map ivV)), (27, .int .i64 c.l.length), (28, .int .i64 k)],
      .cells true true 34 [pkV p] :: .cells false false 72 (nst R.length) :: (R.map (fun l => .cells false true 142 (l.map ivV)) ++ [.cells true true 180 [czV c]]), 0, []⟩
theorem step123_1 (p : Pk) (a0 : List (Int × Int)) (sb : Bool) (z : Nat) (st : List Int) (t : Nat) (c : Cz) (k : Nat) (j : Nat) (hj : c.c = (j : Int)) (hjn : j < 1) (x : List (Int × Int)) (hx : [a0][j]? = some x) (hk : k < c.l.length) (hkx : k < x.length) (hc : c.l.length < 1000000) (hxl : x.length < 1000000) :
    L123i p [a0] sb z st t c k = L123i p ([a0].set j (x.set k (add2 x[k] c.l[k]))) sb z st t c (k + 1) := by
  obtain ⟨h1, h2, h3, h4, h5⟩ := idx_in hk (by omega)
  obtain ⟨g1, g2, g3, g4, g5⟩ := idx_in hkx (by omega)
  have hs : ∀ v, (x.set k v)[k]? = some v := fun v => by rw [List.getElem?_set_self hkx]
  have hj' : j = 0 := by omega
  conv => lhs; unfold L123i; rw [loopEq]
  unfold L123i
  rcases hj' with rfl
  all_goals
    obtain rfl := Option.some.inj hx
    simp only [nst, List.length_cons, List.length_nil, Nat.reduceAdd, List.range_succ, List.range_zero, List.nil_append, List.cons_append, List.map_cons, List.map_nil, List.map_append, List.set_cons_zero, List.set_cons_succ, pkV, czV, hj]
    simp -implicitDefEqProofs only [go_sem, simprocAttr, pkV, h1, h2, h3, h4, g2, g3, hj, hkx, List.length_map, List.length_set, List.getElem?_map, add2, List.map_set, List.getElem?_set_self, List.set_set]
theorem step123_2 (p : Pk) (a0 a1 : List (Int × Int)) (sb : Bool) (z : Nat) (st : List Int) (t : Nat) (c : Cz) (k : Nat) (j : Nat) (hj : c.c = (j : Int)) (hjn : j < 2) (x : List (Int × Int)) (hx : [a0, a1][j]? = some x) (hk : k < c.l.length) (hkx : k < x.length) (hc : c.l.length < 1000000) (hxl : x.length < 1000000) :
    L123i p [a0, a1] sb z st t c k = L123i p ([a0, a1].set j (x.set k (add2 x[k] c.l[k]))) sb z st t c (k + 1) := by
  obtain ⟨h1, h2, h3, h4, h5⟩ := idx_in hk (by omega)
  obtain ⟨g1, g2, g3, g4, g5⟩ := idx_in hkx (by omega)
  have hs : ∀ v, (x.set k v)[k]? = some v := fun v => by rw [List.getElem?_set_self hkx]
  have hj' : j = 0 ∨ j = 1 := by omega
  conv => lhs; unfold L123i; rw [loopEq]
  unfold L123i
  rcases hj' with rfl | rfl
  all_goals
    obtain rfl := Option.some.inj hx
    simp only [nst, List.length_cons, List.length_nil, Nat.reduceAdd, List.range_succ, List.range_zero, List.nil_append, List.cons_append, List.map_cons, List.map_nil, List.map_append, List.set_cons_zero, List.set_cons_succ, pkV, czV, hj]
    simp -implicitDefEqProofs only [go_sem, simprocAttr, pkV, h1, h2, h3, h4, g2, g3, hj, hkx, List.length_map, List.length_set, List.getElem?_map, add2, List.map_set, List.getElem?_set_self, List.set_set]
theorem step123_3 (p : Pk) (a0 a1 a2 : List (Int × Int)) (sb : Bool) (z : Nat) (st : List Int) (t : Nat) (c : Cz) (k : Nat) (j : Nat) (hj : c.c = (j : Int)) (hjn : j < 3) (x : List (Int × Int)) (hx : [a0, a1, a2][j]? = some x) (hk : k < c.l.length) (hkx : k < x.length) (hc : c.l.length < 1000000) (hxl : x.length < 1000000) :
    L123i p [a0, a1, a2] sb z st t c k = L123i p ([a0, a1, a2].set j (x.set k (add2 x[k] c.l[k]))) sb z st t c (k + 1) := by
  obtain ⟨h1, h2, h3, h4, h5⟩ := idx_in hk (by omega)
  obtain ⟨g1, g2, g3, g4, g5⟩ := idx_in hkx (by omega)
  have hs : ∀ v, (x.set k v)[k]? = some v := fun v => by rw [List.getElem?_set_self hkx]
  have hj' : j = 0 ∨ j = 1 ∨ j = 2 := by omega
  conv => lhs; unfold L123i; rw [loopEq]
  unfold L123i
  rcases hj' with rfl | rfl | rfl
  all_goals
    obtain rfl := Option.some.inj hx
    simp only [nst, List.length_cons, List.length_nil, Nat.reduceAdd, List.range_succ, List.range_zero, List.nil_append, List.cons_append, List.map_cons, List.map_nil, List.map_append, List.set_cons_zero, List.set_cons_succ, pkV, czV, hj]
    simp -implicitDefEqProofs only [go_sem, simprocAttr, pkV, h1, h2, h3, h4, g2, g3, hj, hkx, List.length_map, List.length_set, List.getElem?_map, add2, List.map_set, List.getElem?_set_self, List.set_set]
theorem step123_4 (p : Pk) (a0 a1 a2 a3 : List (Int × Int)) (sb : Bool) (z : Nat) (st : List Int) (t : Nat) (c : Cz) (k : Nat) (j : Nat) (hj : c.c = (j : Int)) (hjn : j < 4) (x : List (Int × Int)) (hx : [a0, a1, a2, a3][j]? = some x) (hk : k < c.l.length) (hkx : k < x.length) (hc : c.l.length < 1000000) (hxl : x.length < 1000000) :
    L123i p [a0, a1, a2, a3] sb z st t c k = L123i p ([a0, a1, a2, a3].set j (x.set k (add2 x[k] c.l[k]))) sb z st t c (k + 1) := by
  obtain ⟨h1, h2, h3, h4, h5⟩ := idx_in hk (by omega)
  obtain ⟨g1, g2, g3, g4, g5⟩ := idx_in hkx (by omega)
  have hs : ∀ v, (x.set k v)[k]? = some v := fun v => by rw [List.getElem?_set_self hkx]
  have hj' : j = 0 ∨ j = 1 ∨ j = 2 ∨ j = 3 := by omega
  conv => lhs; unfold L123i; rw [loopEq]
  unfold L123i
  rcases hj' with rfl | rfl | rfl | rfl
  all_goals
    obtain rfl := Option.some.inj hx
    simp only [nst, List.length_cons, List.length_nil, Nat.reduceAdd, List.range_succ, List.range_zero, List.nil_append, List.cons_append, List.map_cons, List.map_nil, List.map_append, List.set_cons_zero, List.set_cons_succ, pkV, czV, hj]
    simp -implicitDefEqProofs only [go_sem, simprocAttr, pkV, h1, h2, h3, h4, g2, g3, hj, hkx, List.length_map, List.length_set, List.getElem?_map, add2, List.map_set, List.getElem?_set_self, List.set_set]
theorem step123_5 (p : Pk) (a0 a1 a2 a3 a4 : List (Int × Int)) (sb : Bool) (z : Nat) (st : List Int) (t : Nat) (c : Cz) (k : Nat) (j : Nat) (hj : c.c = (j : Int)) (hjn : j < 5) (x : List (Int × Int)) (hx : [a0, a1, a2, a3, a4][j]? = some x) (hk : k < c.l.length) (hkx : k < x.length) (hc : c.l.length < 1000000) (hxl : x.length < 1000000) :
    L123i p [a0, a1, a2, a3, a4] sb z st t c k = L123i p ([a0, a1, a2, a3, a4].set j (x.set k (add2 x[k] c.l[k]))) sb z st t c (k + 1) := by
  obtain ⟨h1, h2, h3, h4, h5⟩ := idx_in hk (by omega)
  obtain ⟨g1, g2, g3, g4, g5⟩ := idx_in hkx (by omega)
  have hs : ∀ v, (x.set k v)[k]? = some v := fun v => by rw [List.getElem?_set_self hkx]
  have hj' : j = 0 ∨ j = 1 ∨ j = 2 ∨ j = 3 ∨ j = 4 := by omega
  conv => lhs; unfold L123i; rw [loopEq]
  unfold L123i
  rcases hj' with rfl | rfl | rfl | rfl | rfl
  all_goals
    obtain rfl := Option.some.inj hx
    simp only [nst, List.length_cons, List.length_nil, Nat.reduceAdd, List.range_succ, List.range_zero, List.nil_append, List.cons_append, List.map_cons, List.map_nil, List.map_append, List.set_cons_zero, List.set_cons_succ, pkV, czV, hj]
    simp -implicitDefEqProofs only [go_sem, simprocAttr, pkV, h1, h2, h3, h4, g2, g3, hj, hkx, List.length_map, List.length_set, List.getElem?_map, add2, List.map_set, List.getElem?_set_self, List.set_set]
theorem step123_6 (p : Pk) (a0 a1 a2 a3 a4 a5 : List (Int × Int)) (sb : Bool) (z : Nat) (st : List Int) (t : Nat) (c : Cz) (k : Nat) (j : Nat) (hj : c.c = (j : Int)) (hjn : j < 6) (x : List (Int × Int)) (hx : [a0, a1, a2, a3, a4, a5][j]? = some x) (hk : k < c.l.length) (hkx : k < x.length) (hc : c.l.length < 1000000) (hxl : x.length < 1000000) :
    L123i p [a0, a1, a2, a3, a4, a5] sb z st t c k = L123i p ([a0, a1, a2, a3, a4, a5].set j (x.set k (add2 x[k] c.l[k]))) sb z st t c (k + 1) := by
  obtain ⟨h1, h2, h3, h4, h5⟩ := idx_in hk (by omega)
  obtain ⟨g1, g2, g3, g4, g5⟩ := idx_in hkx (by omega)
  have hs : ∀ v, (x.set k v)[k]? = some v := fun v => by rw [List.getElem?_set_self hkx]
  have hj' : j = 0 ∨ j = 1 ∨ j = 2 ∨ j = 3 ∨ j = 4 ∨ j = 5 := by omega
  conv => lhs; unfold L123i; rw [loopEq]
  unfold L123i
  rcases hj' with rfl | rfl | rfl | rfl | rfl | rfl
  all_goals
    obtain rfl := Option.some.inj hx
    simp only [nst, List.length_cons, List.length_nil, Nat.reduceAdd, List.range_succ, List.range_zero, List.nil_append, List.cons_append, List.map_cons, List.map_nil, List.map_append, List.set_cons_zero, List.set_cons_succ, pkV, czV, hj]
    simp -implicitDefEqProofs only [go_sem, simprocAttr, pkV, h1, h2, h3, h4, g2, g3, hj, hkx, List.length_map, List.length_set, List.getElem?_map, add2, List.map_set, List.getElem?_set_self, List.set_set]
theorem step123_7 (p : Pk) (a0 a1 a2 a3 a4 a5 a6 : List (Int × Int)) (sb : Bool) (z : Nat) (st : List Int) (t : Nat) (c : Cz) (k : Nat) (j : Nat) (hj : c.c = (j : Int)) (hjn : j < 7) (x : List (Int × Int)) (hx : [a0, a1, a2, a3, a4, a5, a6][j]? = some x) (hk : k < c.l.length) (hkx : k < x.length) (hc : c.l.length < 1000000) (hxl : x.length < 1000000) :
    L123i p [a0, a1, a2, a3, a4, a5, a6] sb z st t c k = L123i p ([a0, a1, a2, a3, a4, a5, a6].set j (x.set k (add2 x[k] c.l[k]))) sb z st t c (k + 1) := by
  obtain ⟨h1, h2, h3, h4, h5⟩ := idx_in hk (by omega)
  obtain ⟨g1, g2, g3, g4, g5⟩ := idx_in hkx (by omega)
  have hs : ∀ v, (x.set k v)[k]? = some v := fun v => by rw [List.getElem?_set_self hkx]
  have hj' : j = 0 ∨ j = 1 ∨ j = 2 ∨ j = 3 ∨ j = 4 ∨ j = 5 ∨ j = 6 := by omega
  conv => lhs; unfold L123i; rw [loopEq]
  unfold L123i
  rcases hj' with rfl | rfl | rfl | rfl | rfl | rfl | rfl
  all_goals
    obtain rfl := Option.some.inj hx
    simp only [nst, List.length_cons, List.length_nil, Nat.reduceAdd, List.range_succ, List.range_zero, List.nil_append, List.cons_append, List.map_cons, List.map_nil, List.map_append, List.set_cons_zero, List.set_cons_succ, pkV, czV, hj]
    simp -implicitDefEqProofs only [go_sem, simprocAttr, pkV, h1, h2, h3, h4, g2, g3, hj, hkx, List.length_map, List.length_set, List.getElem?_map, add2, List.map_set, List.getElem?_set_self, List.set_set]
theorem step123_8 (p : Pk) (a0 a1 a2 a3 a4 a5 a6 a7 : List (Int × Int)) (sb : Bool) (z : Nat) (st : List Int) (t : Nat) (c : Cz) (k : Nat) (j : Nat) (hj : c.c = (j : Int)) (hjn : j < 8) (x : List (Int × Int)) (hx : [a0, a1, a2, a3, a4, a5, a6, a7][j]? = some x) (hk : k < c.l.length) (hkx : k < x.length) (hc : c.l.length < 1000000) (hxl : x.length < 1000000) :
    L123i p [a0, a1, a2, a3, a4, a5, a6, a7] sb z st t c k = L123i p ([a0, a1, a2, a3, a4, a5, a6, a7].set j (x.set k (add2 x[k] c.l[k]))) sb z st t c (k + 1) := by
  obtain ⟨h1, h2, h3, h4, h5⟩ := idx_in hk (by omega)
  obtain ⟨g1, g2, g3, g4, g5⟩ := idx_in hkx (by omega)
  have hs : ∀ v, (x.set k v)[k]? = some v := fun v => by rw [List.getElem?_set_self hkx]
  have hj' : j = 0 ∨ j = 1 ∨ j = 2 ∨ j = 3 ∨ j = 4 ∨ j = 5 ∨ j = 6 ∨ j = 7 := by omega
  conv => lhs; unfold L123i; rw [loopEq]
  unfold L123i
  rcases hj' with rfl | rfl | rfl | rfl | rfl | rfl | rfl | rfl
  all_goals
    obtain rfl := Option.some.inj hx
    simp only [nst, List.length_cons, List.length_nil, Nat.reduceAdd, List.range_succ, List.range_zero, List.nil_append, List.cons_append, List.map_cons, List.map_nil, List.map_append, List.set_cons_zero, List.set_cons_succ, pkV, czV, hj]
    simp -implicitDefEqProofs only [go_sem, simprocAttr, pkV, h1, h2, h3, h4, g2, g3, hj, hkx, List.length_map, List.length_set, List.getElem?_map, add2, List.map_set, List.getElem?_set_self, List.set_set]
theorem cases8 {α : Type} {R : List α} (h : 0 < R.length) (h8 : R.length ≤ 8) : (∃ a0, R = [a0]) ∨ (∃ a0 a1, R = [a0, a1]) ∨ (∃ a0 a1 a2, R = [a0, a1, a2]) ∨ (∃ a0 a1 a2 a3, R = [a0, a1, a2, a3]) ∨ (∃ a0 a1 a2 a3 a4, R = [a0, a1, a2, a3, a4]) ∨ (∃ a0 a1 a2 a3 a4 a5, R = [a0, a1, a2, a3, a4, a5]) ∨ (∃ a0 a1 a2 a3 a4 a5 a6, R = [a0, a1, a2, a3, a4, a5, a6]) ∨ (∃ a0 a1 a2 a3 a4 a5 a6 a7, R = [a0, a1, a2, a3, a4, a5, a6, a7]) := by
  match R, h, h8 with
  | [a0], _, _ => exact .inl ⟨a0, rfl⟩
  | [a0, a1], _, _ => exact .inr (.inl ⟨a0, a1, rfl⟩)
  | [a0, a1, a2], _, _ => exact .inr (.inr (.inl ⟨a0, a1, a2, rfl⟩))
  | [a0, a1, a2, a3], _, _ => exact .inr (.inr (.inr (.inl ⟨a0, a1, a2, a3, rfl⟩)))
  | [a0, a1, a2, a3, a4], _, _ => exact .inr (.inr (.inr (.inr (.inl ⟨a0, a1, a2, a3, a4, rfl⟩))))
  | [a0, a1, a2, a3, a4, a5], _, _ => exact .inr (.inr (.inr (.inr (.inr (.inl ⟨a0, a1, a2, a3, a4, a5, rfl⟩)))))
  | [a0, a1, a2, a3, a4, a5, a6], _, _ => exact .inr (.inr (.inr (.inr (.inr (.inr (.inl ⟨a0, a1, a2, a3, a4, a5, a6, rfl⟩))))))
  | [a0, a1, a2, a3, a4, a5, a6, a7], _, _ => exact .inr (.inr (.inr (.inr (.inr (.inr (.inr ⟨a0, a1, a2, a3, a4, a5, a6, a7, rfl⟩))))))
  | _ :: _ :: _ :: _ :: _ :: _ :: _ :: _ :: _ :: _, _, h => exact absurd h (by simp only [List.length_cons]; omega)
theorem step123 (p : Pk) (R : List (List (Int × Int))) (h0 : 0 < R.length) (h8 : R.length ≤ 8) (sb : Bool) (z : Nat) (st : List Int) (t : Nat) (c : Cz) (k : Nat) (j : Nat) (hj : c.c = (j : Int)) (hjn : j < R.length) (x : List (Int × Int)) (hx : R[j]? = some x) (hk : k < c.l.length) (hkx : k < x.length) (hc : c.l.length < 1000000) (hxl : x.length < 1000000) :
    L123i p R sb z st t c k = L123i p (R.set j (x.set k (add2 x[k] c.l[k]))) sb z st t c (k + 1) := by
  rcases cases8 h0 h8 with ⟨a0, rfl⟩ | ⟨a0, a1, rfl⟩ | ⟨a0, a1, a2, rfl⟩ | ⟨a0, a1, a2, a3, rfl⟩ | ⟨a0, a1, a2, a3, a4, rfl⟩ | ⟨a0, a1, a2, a3, a4, a5, rfl⟩ | ⟨a0, a1, a2, a3, a4, a5, a6, rfl⟩ | ⟨a0, a1, a2, a3, a4, a5, a6, a7, rfl⟩
  · exact step123_1 p a0 sb z st t c k j hj hjn x hx hk hkx hc hxl
  · exact step123_2 p a0 a1 sb z st t c k j hj hjn x hx hk hkx hc hxl
  · exact step123_3 p a0 a1 a2 sb z st t c k j hj hjn x hx hk hkx hc hxl
  · exact step123_4 p a0 a1 a2 a3 sb z st t c k j hj hjn x hx hk hkx hc hxl
  · exact step123_5 p a0 a1 a2 a3 a4 sb z st t c k j hj hjn x hx hk hkx hc hxl
  · exact step123_6 p a0 a1 a2 a3 a4 a5 sb z st t c k j hj hjn x hx hk hkx hc hxl
  · exact step123_7 p a0 a1 a2 a3 a4 a5 a6 sb z st t c k j hj hjn x hx hk hkx hc hxl
  · exact step123_8 p a0 a1 a2 a3 a4 a5 a6 a7 sb z st t c k j hj hjn x hx hk hkx hc hxl
def addR (x l : List (Int × Int)) : List (Int × Int) := List.zipWith add2 x l
def part (x l : List (Int × Int)) (k : Nat) : List (Int × Int) := (addR x l).take k ++ x.drop k
theorem addR_len {x l : List (Int × Int)} (h : x.length = l.length) : (addR x l).length = l.length := by simp [addR, h]
theorem part_len {x l : List (Int × Int)} (h : x.length = l.length) (k : Nat) (hk : k ≤ l.length) : (part x l k).length = l.length := by
  simp [part, addR_len h]; omega
theorem part_get {x l : List (Int × Int)} (h : x.length = l.length) (k : Nat) (hk : k < l.length) : (part x l k)[k]? = some (x[k]'(by omega)) := by
  unfold part
  have : ((addR x l).take k).length = k := by simp [addR_len h]; omega
  rw [List.getElem?_append_right (by omega), this, Nat.sub_self, List.getElem?_drop, Nat.add_zero, List.getElem?_eq_getElem (by omega)]
theorem part_set {x l : List (Int × Int)} (h : x.length = l.length) (k : Nat) (hk : k < l.length) : (part x l k).set k (add2 (x[k]'(by omega)) l[k]) = part x l (k + 1) := by
  unfold part
  have h1 : ((addR x l).take k).length = k := by simp [addR_len h]; omega
  rw [List.set_append_right _ _ (by omega), h1, Nat.sub_self, List.drop_eq_getElem_cons (show k < x.length by omega), List.set_cons_zero, List.take_succ_eq_append_getElem (by rw [addR_len h]; exact hk), List.append_assoc]
  congr 1
  simp [addR]
theorem loop123i (p : Pk) (R : List (List (Int × Int))) (h0 : 0 < R.length) (h8 : R.length ≤ 8) (sb : Bool) (z : Nat) (st : List Int) (t : Nat) (c : Cz) (j : Nat) (hj : c.c = (j : Int)) (hjn : j < R.length) (x : List (Int × Int)) (hxl : x.length = c.l.length) (hc : c.l.length < 1000000) : ∀ k, k ≤ c.l.length →
    L123i p (R.set j (part x c.l k)) sb z st t c k = L123i p (R.set j (addR x c.l)) sb z st t c c.l.length := by
  refine down_ind c.l.length ?_ fun k hk ih => ?_
  · have : part x c.l c.l.length = addR x c.l := by
      unfold part
      rw [List.take_of_length_le (by rw [addR_len hxl]; exact Nat.le_refl _), List.drop_of_length_le (by omega), List.append_nil]
    rw [this]
  · rw [← ih, ← part_set hxl k hk]
    have hl := part_len hxl k (by omega)
    have hg := part_get hxl k hk
    have hkk : k < (part x c.l k).length := by omega
    have hg2 : (part x c.l k)[k] = x[k]'(by omega) := by
      have := hg
      rw [List.getElem?_eq_getElem hkk] at this
      exact Option.some.inj this
    rw [step123 p (R.set j (part x c.l k)) (by simpa using h0) (by simpa using h8) sb z st t c k j hj (by simpa using hjn) (part x c.l k) (by rw [List.getElem?_set_self (by simpa using hjn)]) hk hkk hc (by omega), List.set_set, hg2]
def L123 (p : Pk) (R : List (List (Int × Int))) (sb : Bool) (z : Nat) (st : List Int) (t : Nat) : Option Out :=
  (lim T).loop false [.code (.loop b123_0), .inBlock 0, .code (.seq r123_13 .ret)]
    ⟨123, 64, 0, [(2, .ptr 0 0 0), (5, .ref 1), (14, .sl sb z (st.map intV)), (15, .int .i64 st.length), (16, .int .i64 t)],
      .cells true true 34 [pkV p] :: .cells false false 72 (nst R.length) :: R.map (fun l => .cells false true 142 (l.map ivV)), 0, []⟩
def rvV (r : Bool × List (Int × Int)) : V := .sl r.1 2 (r.2.map ivV)
attribute [go_sem] rvV
def rvT (l : List (Int × Int)) : Bool × List (Int × Int) := (true, l)
theorem exit123 (p : Pk) (R : List (List (Int × Int))) (h0 : 0 < R.length) (h8 : R.length ≤ 8) (sb : Bool) (z : Nat) (st : List Int) (t : Nat) (ht : t < 1000000) (c : Cz) : L123i p R sb z st t c c.l.length = L123 p R sb z st (t + 1) := by
  have h1 := idx_out c.l.length
  have h4 : IntKind.i64.wrap ((t : Int) + 1) = ((t + 1 : Nat) : Int) := by rw [wrap64] <;> omega
  unfold L123i L123
  rw [loopEq]
  rcases cases8 h0 h8 with ⟨a0, rfl⟩ | ⟨a0, a1, rfl⟩ | ⟨a0, a1, a2, rfl⟩ | ⟨a0, a1, a2, a3, rfl⟩ | ⟨a0, a1, a2, a3, a4, rfl⟩ | ⟨a0, a1, a2, a3, a4, a5, rfl⟩ | ⟨a0, a1, a2, a3, a4, a5, a6, rfl⟩ | ⟨a0, a1, a2, a3, a4, a5, a6, a7, rfl⟩
  all_goals
    simp only [nst, List.length_cons, List.length_nil, Nat.reduceAdd, List.range_succ, List.range_zero, List.nil_append, List.cons_append, List.map_cons, List.map_nil, List.map_append, pkV, czV]
    simp -implicitDefEqProofs only [go_sem, simprocAttr, h1, h4]
theorem head123 (p : Pk) (R : List (List (Int × Int))) (h0 : 0 < R.length) (h8 : R.length ≤ 8) (sb : Bool) (st : List Int) (t : Nat) (ht : t < st.length) (hs : st.length < 1000000) (c : Cz) (hd : decide (0 ≤ st[t] ∧ st[t] < (p.c.length : Int)) = true) (hc : p.c[st[t].toNat]? = some c) : L123 p R sb 1 st t = L123i p R sb 1 st t c 0 := by
  obtain ⟨h1, h2, h3, h4, h5⟩ := idx_in ht (by omega)
  conv => lhs; unfold L123; rw [loopEq]
  unfold L123i
  rw [show ((0 : Nat) : Int) = 0 from rfl]
  rcases cases8 h0 h8 with ⟨a0, rfl⟩ | ⟨a0, a1, rfl⟩ | ⟨a0, a1, a2, rfl⟩ | ⟨a0, a1, a2, a3, rfl⟩ | ⟨a0, a1, a2, a3, a4, rfl⟩ | ⟨a0, a1, a2, a3, a4, a5, rfl⟩ | ⟨a0, a1, a2, a3, a4, a5, a6, rfl⟩ | ⟨a0, a1, a2, a3, a4, a5, a6, a7, rfl⟩
  all_goals
    simp only [nst, List.length_cons, List.length_nil, Nat.reduceAdd, List.range_succ, List.range_zero, List.nil_append, List.cons_append, List.map_cons, List.map_nil, List.map_append, pkV, czV]
    simp -implicitDefEqProofs only [go_sem, simprocAttr, h1, h2, h3, hd, hc]
theorem end123 (p : Pk) (R : List (List (Int × Int))) (h0 : 0 < R.length) (h8 : R.length ≤ 8) (sb : Bool) (z : Nat) (st : List Int) : L123 p R sb z st st.length = some (.ret (.sl true 1 ((R.map rvT).map rvV)), [], 0, []) := by
  have h1 := idx_out st.length
  unfold L123
  rw [loopEq]
  rcases cases8 h0 h8 with ⟨a0, rfl⟩ | ⟨a0, a1, rfl⟩ | ⟨a0, a1, a2, rfl⟩ | ⟨a0, a1, a2, a3, rfl⟩ | ⟨a0, a1, a2, a3, a4, rfl⟩ | ⟨a0, a1, a2, a3, a4, a5, rfl⟩ | ⟨a0, a1, a2, a3, a4, a5, a6, rfl⟩ | ⟨a0, a1, a2, a3, a4, a5, a6, a7, rfl⟩
  all_goals
    simp only [nst, List.length_cons, List.length_nil, Nat.reduceAdd, List.range_succ, List.range_zero, List.nil_append, List.cons_append, List.map_cons, List.map_nil, List.map_append, pkV, rvT]
    simp -implicitDefEqProofs only [go_sem, simprocAttr, h1]
def lsF : List (Nat × List (Int × Int)) → List (List (Int × Int)) → List (List (Int × Int))
  | [], R => R
  | c :: cs, R => lsF cs (R.set c.1 (addR (R.getD c.1 []) c.2))
def lossF (i k : Nat) : List (Nat × List (Int × Int)) → Int × Int → Int × Int
  | [], x => x
  | c :: cs, x => lossF i k cs (if c.1 = i then add2 x (c.2.getD k (0, 0)) else x)
def tab {α : Type} (n s : Nat) (f : Nat → Nat → α) : List (List α) := (List.range n).map fun i => (List.range s).map fun k => f i k
theorem lsF_len : ∀ (cs : List (Nat × List (Int × Int))) (R : List (List (Int × Int))), (lsF cs R).length = R.length := by
  intro cs
  induction cs with
  | nil => intro R; rfl
  | cons c cs ih => intro R; simp only [lsF]; rw [ih, List.length_set]
theorem set_rows {R : List (List (Int × Int))} {s j : Nat} {l : List (Int × Int)} (hR : ∀ x ∈ R, x.length = s) (hj : j < R.length) (hl : l.length = s) : ∀ x ∈ R.set j (addR (R.getD j []) l), x.length = s := by
  intro x hx
  have hm : (R.getD j []) ∈ R := by
    rw [List.getD_eq_getElem?_getD, List.getElem?_eq_getElem hj]; exact List.getElem_mem hj
  rcases List.mem_or_eq_of_mem_set hx with h | h
  · exact hR x h
  · rw [h]; unfold addR; rw [List.length_zipWith, hR _ hm, hl, Nat.min_self]
theorem tab_self {R : List (List (Int × Int))} {s : Nat} (hR : ∀ x ∈ R, x.length = s) : R = tab R.length s fun i k => (R.getD i []).getD k (0, 0) := by
  unfold tab
  apply List.ext_getElem
  · simp
  · intro i h1 h2
    have hs := hR _ (List.getElem_mem h1)
    simp only [List.getElem_map, List.getElem_range]
    apply List.ext_getElem
    · simp [hs]
    · intro k h3 h4
      simp [List.getD_eq_getElem?_getD, List.getElem?_eq_getElem h1, List.getElem?_eq_getElem h3]
theorem lsF_tab (s : Nat) : ∀ (cs : List (Nat × List (Int × Int))) (R : List (List (Int × Int))), (∀ x ∈ R, x.length = s) → (∀ c ∈ cs, c.1 < R.length ∧ c.2.length = s) →
    lsF cs R = tab R.length s fun i k => lossF i k cs ((R.getD i []).getD k (0, 0)) := by
  intro cs
  induction cs with
  | nil => intro R hR _; exact tab_self hR
  | cons c cs ih =>
    intro R hR hc
    obtain ⟨c1, c2⟩ := hc c (by simp)
    simp only [lsF]
    rw [ih _ (set_rows hR c1 c2) (fun d hd => by rw [List.length_set]; exact hc d (by simp [hd])), List.length_set]
    unfold tab
    apply List.map_congr_left
    intro i hi
    rw [List.mem_range] at hi
    apply List.map_congr_left
    intro k hk
    rw [List.mem_range] at hk
    simp only [lossF]
    congr 1
    by_cases h : c.1 = i
    · subst h
      have e1 : (R.set c.1 (addR (R.getD c.1 []) c.2)).getD c.1 [] = addR (R.getD c.1 []) c.2 := by
        rw [List.getD_eq_getElem?_getD, List.getElem?_set_self hi]; rfl
      rw [e1, if_pos rfl]
      have e2 : (R.getD c.1 []).length = s := hR _ (by rw [List.getD_eq_getElem?_getD, List.getElem?_eq_getElem hi]; exact List.getElem_mem hi)
      generalize R.getD c.1 [] = y at e2 ⊢
      unfold addR
      simp only [List.getD_eq_getElem?_getD, List.getElem?_zipWith]
      have q1 : y[k]? = some (y[k]'(by omega)) := List.getElem?_eq_getElem _
      have q2 : c.2[k]? = some (c.2[k]'(by omega)) := List.getElem?_eq_getElem _
      rw [q1, q2]
      rfl
    · have e1 : (R.set c.1 (addR (R.getD c.1 []) c.2)).getD i [] = R.getD i [] := by
        rw [List.getD_eq_getElem?_getD, List.getElem?_set_ne h, ← List.getD_eq_getElem?_getD]
      rw [e1, if_neg h]
def bdB (nz n : Int) (x : Int × Int) : Bool := decide (n < Go.IntKind.i64.wrap (x.1 - nz)) || decide (Go.IntKind.i64.wrap (x.2 + nz) < n)
def rowP (nz : Int) (i : Nat) : Nat → List Int → List (Int × Int) → List (Int × Int)
  | k, n :: r, x :: l => bif bdB nz n x then ((i : Int), (k : Int)) :: rowP nz i (k + 1) r l else rowP nz i (k + 1) r l
  | _, _, _ => []
def allP (nz : Int) : Nat → List (List Int) → List (List (Int × Int)) → List (Int × Int)
  | i, r :: R, l :: L => rowP nz i 0 r l ++ allP nz (i + 1) R L
  | _, _, _ => []
def cPr (c : Cz) : Nat × List (Int × Int) := (c.c.toNat, c.l)
def cAt (p : Pk) (i : Int) : Cz := (p.c[i.toNat]?).getD ⟨[], 0, false, []⟩
def csq (p : Pk) (st : List Int) : List (Nat × List (Int × Int)) := st.map fun i => cPr (cAt p i)
def ls0 (p : Pk) : List (List (Int × Int)) := p.v.map fun r => z0 r.2.length
def lss (p : Pk) (st : List Int) : List (List (Int × Int)) := lsF (csq p st) (ls0 p)
abbrev Vst (p : Pk) (st : List Int) : Prop := ∀ i ∈ st, 0 ≤ i ∧ i < (p.c.length : Int)
theorem cAt_ok {p : Pk} (ho : Ok p) {i : Int} (h : 0 ≤ i ∧ i < (p.c.length : Int)) : p.c[i.toNat]? = some (cAt p i) ∧ 0 ≤ (cAt p i).c ∧ (cAt p i).c < p.v.length ∧ (cAt p i).l.length = slots p := by
  have hlt : i.toNat < p.c.length := by omega
  have hg : p.c[i.toNat]? = some p.c[i.toNat] := List.getElem?_eq_getElem hlt
  have hc : cAt p i = p.c[i.toNat] := by unfold cAt; rw [hg]; rfl
  rw [hc]
  exact ⟨hg, ho.ca _ (List.getElem_mem hlt)⟩
theorem part_0 (x l : List (Int × Int)) : part x l 0 = x := by simp [part]
theorem loop123 (p : Pk) (ho : Ok p) (sb : Bool) (z : Nat) (st : List Int) (hs : st.length < 1000000) (hv : Vst p st) (hz : st ≠ [] → z = 1) : ∀ t, t ≤ st.length → ∀ R, R.length = p.v.length → (∀ x ∈ R, x.length = slots p) →
    L123 p R sb z st t = L123 p (lsF (csq p (st.drop t)) R) sb z st st.length := by
  refine down_ind st.length ?_ fun t ht ih => ?_
  · intro R _ _
    rw [List.drop_of_length_le (Nat.le_refl _)]
    rfl
  · intro R hR hx
    obtain ⟨h1, h2, h3, h4, h5⟩ := idx_in ht (by omega)
    have hz1 := hz (fun e => by rw [e] at ht; cases ht)
    subst hz1
    have hi := hv _ (List.getElem_mem ht)
    obtain ⟨hg, k1, k2, k3⟩ := cAt_ok ho hi
    have v1 := ho.v1
    have v8 := ho.v8
    have s8 := ho.s8
    have r0 : 0 < R.length := by omega
    have r8 : R.length ≤ 8 := by omega
    have hjR : (cAt p st[t]).c.toNat < R.length := by omega
    have hxj := hx _ (List.getElem_mem hjR)
    have e := loop123i p R r0 r8 sb 1 st t (cAt p st[t]) (cAt p st[t]).c.toNat (by omega) hjR R[(cAt p st[t]).c.toNat] (by rw [hxj, k3]) (by omega) 0 (by omega)
    rw [part_0, List.set_getElem_self] at e
    rw [head123 p R r0 r8 sb st t ht hs _ (decide_eq_true hi) hg, e, exit123 p _ (by rw [List.length_set]; exact r0) (by rw [List.length_set]; exact r8) sb 1 st t (by omega) _]
    have hgd : R.getD (cAt p st[t]).c.toNat [] = R[(cAt p st[t]).c.toNat] := by rw [List.getD_eq_getElem?_getD, List.getElem?_eq_getElem hjR]; rfl
    have hs2 := set_rows (l := (cAt p st[t]).l) hx hjR k3
    rw [hgd] at hs2
    rw [ih _ (by rw [List.length_set]; exact hR) hs2, h5]
    simp only [csq, List.map_cons, lsF, cPr, hgd]
theorem ls0_len (p : Pk) : (ls0 p).length = p.v.length := by simp [ls0]
theorem ls0_row {p : Pk} (ho : Ok p) : ∀ x ∈ ls0 p, x.length = slots p := by
  intro x hx
  obtain ⟨r, hr, rfl⟩ := List.mem_map.1 hx
  simp [z0, ho.row r hr]
theorem lss_len (p : Pk) (st : List Int) : (lss p st).length = p.v.length := by unfold lss; rw [lsF_len, ls0_len]
theorem c123 (p : Pk) (ho : Ok p) (sb : Bool) (z : Nat) (st : List Int) (hs : st.length < 1000000) (hv : Vst p st) (hz : st ≠ [] → z = 1) : (lim T).call 123 [pkV p, .sl sb z (st.map intV)] [] 0 [] = some (.sl true 1 (((lss p st).map rvT).map rvV), [], 0, []) := by
  have v1 := ho.v1
  have v8 := ho.v8
  have s8 := ho.s8
  have hrow : ∀ r ∈ p.v, r.2.length < 1000 := fun r hr => by rw [ho.row r hr]; omega
  have h := loop123 p ho sb z st hs hv hz 0 (by omega) (ls0 p) (ls0_len p) (ls0_row ho)
  rw [List.drop_zero] at h
  have hE := end123 p (lss p st) (by rw [lss_len]; exact v1) (by rw [lss_len]; exact v8) sb z st
  rw [show lsF (csq p st) (ls0 p) = lss p st from rfl, hE] at h
  clear hE hv
  generalize hL : V.sl true 1 (((lss p st).map rvT).map rvV) = res at h ⊢
  clear hL
  unfold L123 ls0 at h
  clear ho
  obtain ⟨vb, v, n, cb, c⟩ := p
  simp only at v1 v8 hrow h
  rw [ent123]
  rcases cases8 v1 v8 with ⟨a0, rfl⟩ | ⟨a0, a1, rfl⟩ | ⟨a0, a1, a2, rfl⟩ | ⟨a0, a1, a2, a3, rfl⟩ | ⟨a0, a1, a2, a3, a4, rfl⟩ | ⟨a0, a1, a2, a3, a4, a5, rfl⟩ | ⟨a0, a1, a2, a3, a4, a5, a6, rfl⟩ | ⟨a0, a1, a2, a3, a4, a5, a6, a7, rfl⟩
  all_goals simp only [nst, List.length_cons, List.length_nil, Nat.reduceAdd, List.range_succ, List.range_zero, List.nil_append, List.cons_append, List.map_cons, List.map_nil, List.map_append, pkV, rwV, show ((0 : Nat) : Int) = 0 from rfl] at h
  · simp -implicitDefEqProofs only [go_sem, simprocAttr, pkV, c194_1 vb a0 (hrow a0 (by simp)), h]
  · simp -implicitDefEqProofs only [go_sem, simprocAttr, pkV, c194_2 vb a0 a1 (hrow a0 (by simp)) (hrow a1 (by simp)), h]
  · simp -implicitDefEqProofs only [go_sem, simprocAttr, pkV, c194_3 vb a0 a1 a2 (hrow a0 (by simp)) (hrow a1 (by simp)) (hrow a2 (by simp)), h]
  · simp -implicitDefEqProofs only [go_sem, simprocAttr, pkV, c194_4 vb a0 a1 a2 a3 (hrow a0 (by simp)) (hrow a1 (by simp)) (hrow a2 (by simp)) (hrow a3 (by simp)), h]
  · simp -implicitDefEqProofs only [go_sem, simprocAttr, pkV, c194_5 vb a0 a1 a2 a3 a4 (hrow a0 (by simp)) (hrow a1 (by simp)) (hrow a2 (by simp)) (hrow a3 (by simp)) (hrow a4 (by simp)), h]
  · simp -implicitDefEqProofs only [go_sem, simprocAttr, pkV, c194_6 vb a0 a1 a2 a3 a4 a5 (hrow a0 (by simp)) (hrow a1 (by simp)) (hrow a2 (by simp)) (hrow a3 (by simp)) (hrow a4 (by simp)) (hrow a5 (by simp)), h]
  · simp -implicitDefEqProofs only [go_sem, simprocAttr, pkV, c194_7 vb a0 a1 a2 a3 a4 a5 a6 (hrow a0 (by simp)) (hrow a1 (by simp)) (hrow a2 (by simp)) (hrow a3 (by simp)) (hrow a4 (by simp)) (hrow a5 (by simp)) (hrow a6 (by simp)), h]
  · simp -implicitDefEqProofs only [go_sem, simprocAttr, pkV, c194_8 vb a0 a1 a2 a3 a4 a5 a6 a7 (hrow a0 (by simp)) (hrow a1 (by simp)) (hrow a2 (by simp)) (hrow a3 (by simp)) (hrow a4 (by simp)) (hrow a5 (by simp)) (hrow a6 (by simp)) (hrow a7 (by simp)), h]
def lsA (p : Pk) (st : List Int) (i k : Nat) : Int × Int := lossF i k (csq p st) (0, 0)
def lsR (p : Pk) (st : List Int) (i : Nat) : List (Int × Int) := (List.range (slots p)).map (lsA p st i)
theorem lsR_len (p : Pk) (st : List Int) (i : Nat) : (lsR p st i).length = slots p := by simp [lsR]
def lsT (p : Pk) (st : List Int) : List (List (Int × Int)) := (List.range p.v.length).map (lsR p st)
theorem lsT_eq (p : Pk) (ho : Ok p) (st : List Int) (hv : Vst p st) : lss p st = lsT p st := by
  unfold lss
  rw [lsF_tab (slots p) (csq p st) (ls0 p) (ls0_row ho) (fun c hc => by
    obtain ⟨i, hi, rfl⟩ := List.mem_map.1 hc
    obtain ⟨hg, k1, k2, k3⟩ := cAt_ok ho (hv i hi)
    exact ⟨by rw [ls0_len]; simp only [cPr]; omega, k3⟩), ls0_len]
  unfold tab lsT lsR
  apply List.map_congr_left
  intro i hi
  rw [List.mem_range] at hi
  apply List.map_congr_left
  intro k hk
  rw [List.mem_range] at hk
  unfold lsA
  congr 1
  have hr := ho.row _ (List.getElem_mem hi)
  simp [ls0, z0, List.getD_eq_getElem?_getD, List.getElem?_eq_getElem hi, List.getElem?_replicate, hr, hk]
theorem gt_lt (a b : Int) : decide (a > b) = decide (b < a) := rfl
theorem lsT_ok {p : Pk} (st : List Int) : ∀ l ∈ (lsT p st).map rvT, l.2.length = slots p := by
  intro l hl
  obtain ⟨x, hx, rfl⟩ := List.mem_map.1 hl
  obtain ⟨i, hi, rfl⟩ := List.mem_map.1 hx
  exact lsR_len p st i
def L197 (p : Pk) (rb lb : Bool) (R : List (Bool × List Int)) (L : List (Bool × List (Int × Int))) (d : Nat) (S : Stk) (i : Nat) : Option Out :=
  (lim T).loop false [.code (.loop b197_0), .inBlock 0]
    ⟨197, 57, 0, [(0, .yld d), (2, .pp 1 [.sl lb 1 (L.map rvV)] 0 0), (3, .pp 3 [pkV p] 0 0), (10, .sl rb 1 (R.map rwV)), (11, .int .i64 R.length), (12, .int .i64 i)], [], 0, S⟩
def L197i (p : Pk) (rb lb : Bool) (R : List (Bool × List Int)) (L : List (Bool × List (Int × Int))) (d : Nat) (S : Stk) (i : Nat) (r : Bool × List Int) (k : Nat) : Option Out :=
  (lim T).loop false [.code (.loop b197_1), .inBlock 2, .inBlock 1, .code r197_9, .inLoop b197_0, .inBlock 0]
    ⟨197, 57, 0, [(0, .yld d), (2, .pp 1 [.sl lb 1 (L.map rvV)] 0 0), (3, .pp 3 [pkV p] 0 0), (5, .int .i64 i), (10, .sl rb 1 (R.map rwV)), (11, .int .i64 R.length), (12, .int .i64 i), (17, .sl r.1 1 (r.2.map intV)), (18, .int .i64 r.2.length), (19, .int .i64 k)], [], 0, S⟩
theorem loop197i (p : Pk) (rb lb : Bool) (R : List (Bool × List Int)) (L : List (Bool × List (Int × Int))) (d : Nat) (i : Nat) (hi : i < R.length) (hR : R.length ≤ 8) (hL : L.length = R.length) (r : Bool × List Int) (hr : R[i]? = some r) (l : Bool × List (Int × Int)) (hl : L[i]? = some l) (hrl : r.2.length = l.2.length) (hr8 : r.2.length ≤ 8)
    (rest : List V) (hrest : ∀ S S' b, yldAll T d rest S = some (b, S') → L197 p rb lb R L d S (i + 1) = some (.ret (.tup []), [], 0, S')) :
    ∀ k, k ≤ r.2.length → ∀ S S' b, yldAll T d ((rowP p.n i k (r.2.drop k) (l.2.drop k)).map ptV ++ rest) S = some (b, S') → L197i p rb lb R L d S i r k = some (.ret (.tup []), [], 0, S') := by
  refine down_ind r.2.length ?_ fun k hk ih => ?_
  · intro S S' b h
    rw [List.drop_of_length_le (Nat.le_refl _), show rowP p.n i r.2.length [] (l.2.drop r.2.length) = [] from by unfold rowP; rfl, List.map_nil, List.nil_append] at h
    rw [← hrest _ _ _ h]
    obtain ⟨q1, q2, q3, q4, q5⟩ := idx_in hi (by omega)
    have hE := idx_out r.2.length
    conv => lhs; unfold L197i; rw [loopEq]
    unfold L197
    simp -implicitDefEqProofs only [go_sem, simprocAttr, pkV, hE, q4]
  · intro S S' b h
    obtain ⟨h1, h2, h3, h4, h5⟩ := idx_in hk (by omega)
    obtain ⟨g1, g2, g3, g4, g5⟩ := idx_in (l := l.2) (i := k) (by omega) (by omega)
    obtain ⟨q1, q2, q3, q4, q5⟩ := idx_in hi (by omega)
    obtain ⟨m1, m2, m3, m4, m5⟩ := idx_in (l := L) (i := i) (by omega) (by omega)
    rw [h5, g5] at h
    simp only [rowP, bdB] at h
    generalize r.2[k] = n at h3 h
    generalize l.2[k]'(by omega) = x at g3 h
    cases hA : decide (n < IntKind.i64.wrap (x.1 - p.n))
    · cases hB : decide (IntKind.i64.wrap (x.2 + p.n) < n)
      · simp only [hA, hB, Bool.or_false, cond_false] at h
        rw [← ih _ _ _ h]
        conv => lhs; unfold L197i; rw [loopEq]
        unfold L197i
        simp -implicitDefEqProofs only [go_sem, simprocAttr, pkV, rvV, h1, h2, h3, h4, g2, g3, m2, hl, hA, hB, gt_lt]
      · simp only [hA, hB, Bool.or_true, cond_true, List.map_cons, List.cons_append, yldAll, ptV] at h
        cases hy : (lim T).yld d [.agg [.int .i64 i, .int .i64 k]] S with
        | none => rw [hy] at h; cases h
        | some w =>
          obtain ⟨c, S1⟩ := w
          rw [hy] at h
          cases c
          · simp only [Option.some.injEq, Prod.mk.injEq] at h
            obtain ⟨_, rfl⟩ := h
            unfold L197i
            rw [loopEq]
            simp -implicitDefEqProofs only [go_sem, simprocAttr, pkV, rvV, h1, h2, h3, h4, g2, g3, m2, hl, hA, hB, gt_lt, hy]
          · rw [← ih _ _ _ h]
            conv => lhs; unfold L197i; rw [loopEq]
            unfold L197i
            simp -implicitDefEqProofs only [go_sem, simprocAttr, pkV, rvV, h1, h2, h3, h4, g2, g3, m2, hl, hA, hB, gt_lt, hy]
    · simp only [hA, Bool.true_or, cond_true, List.map_cons, List.cons_append, yldAll, ptV] at h
      cases hy : (lim T).yld d [.agg [.int .i64 i, .int .i64 k]] S with
      | none => rw [hy] at h; cases h
      | some w =>
        obtain ⟨c, S1⟩ := w
        rw [hy] at h
        cases c
        · simp only [Option.some.injEq, Prod.mk.injEq] at h
          obtain ⟨_, rfl⟩ := h
          unfold L197i
          rw [loopEq]
          simp -implicitDefEqProofs only [go_sem, simprocAttr, pkV, rvV, h1, h2, h3, h4, g2, g3, m2, hl, hA, gt_lt, hy]
        · rw [← ih _ _ _ h]
          conv => lhs; unfold L197i; rw [loopEq]
          unfold L197i
          simp -implicitDefEqProofs only [go_sem, simprocAttr, pkV, rvV, h1, h2, h3, h4, g2, g3, m2, hl, hA, gt_lt, hy]
theorem loop197 (p : Pk) (rb lb : Bool) (R : List (Bool × List Int)) (L : List (Bool × List (Int × Int))) (d : Nat) (hR : R.length ≤ 8) (hL : L.length = R.length) (s : Nat) (hs : s ≤ 8) (hr : ∀ r ∈ R, r.2.length = s) (hl : ∀ l ∈ L, l.2.length = s) :
    ∀ i, i ≤ R.length → ∀ S S' b, yldAll T d ((allP p.n i ((R.map (·.2)).drop i) ((L.map (·.2)).drop i)).map ptV) S = some (b, S') → L197 p rb lb R L d S i = some (.ret (.tup []), [], 0, S') := by
  refine down_ind R.length ?_ fun i hi ih => ?_
  · intro S S' b h
    rw [List.drop_of_length_le (by simp), show allP p.n R.length [] ((L.map (·.2)).drop R.length) = [] from by unfold allP; rfl, List.map_nil] at h
    simp only [yldAll, Option.some.injEq, Prod.mk.injEq] at h
    obtain ⟨_, rfl⟩ := h
    unfold L197
    rw [loopEq]
    have h1 := idx_out R.length
    simp -implicitDefEqProofs only [go_sem, simprocAttr, pkV, h1]
  · intro S S' b h
    obtain ⟨h1, h2, h3, h4, h5⟩ := idx_in hi (by omega)
    have r1 := hr _ (List.getElem_mem hi)
    have l1 := hl _ (List.getElem_mem (show i < L.length by omega))
    have e1 : (R.map (·.2)).drop i = R[i].2 :: (R.map (·.2)).drop (i + 1) := by rw [List.drop_eq_getElem_cons (by simpa using hi)]; simp
    have e2 : (L.map (·.2)).drop i = (L[i]'(by omega)).2 :: (L.map (·.2)).drop (i + 1) := by rw [List.drop_eq_getElem_cons (by simp; omega)]; simp
    rw [e1, e2] at h
    simp only [allP, List.map_append] at h
    rw [← loop197i p rb lb R L d i hi hR hL R[i] h3 (L[i]'(by omega)) (List.getElem?_eq_getElem (by omega)) (by rw [r1, l1]) (by omega) _ (fun S S' b h => ih S S' b h) 0 (by omega) S S' b (by rw [List.drop_zero, List.drop_zero]; exact h)]
    conv => lhs; unfold L197; rw [loopEq]
    unfold L197i
    rw [show ((0 : Nat) : Int) = 0 from rfl]
    simp -implicitDefEqProofs only [go_sem, simprocAttr, pkV, rwV, h1, h2, h3]
theorem c197 (p : Pk) (rb lb : Bool) (R : List (Bool × List Int)) (L : List (Bool × List (Int × Int))) (d : Nat) (hR : R.length ≤ 8) (hL : L.length = R.length) (s : Nat) (hs : s ≤ 8) (hr : ∀ r ∈ R, r.2.length = s) (hl : ∀ l ∈ L, l.2.length = s) (S S' : Stk) (b : Bool)
    (h : yldAll T d ((allP p.n 0 (R.map (·.2)) (L.map (·.2))).map ptV) S = some (b, S')) :
    (lim T).call 197 [.yld d, .pp 1 [.sl rb 1 (R.map rwV)] 0 0, .pp 1 [.sl lb 1 (L.map rvV)] 0 0, .pp 3 [pkV p] 0 0] [] 0 S = some (.tup [], [], 0, S') := by
  rw [ent197]
  have e := loop197 p rb lb R L d hR hL s hs hr hl 0 (by omega) S S' b (by rw [List.drop_zero, List.drop_zero]; exact h)
  unfold L197 at e
  simp only [show ((0 : Nat) : Int) = 0 from rfl, pkV] at e
  simp -implicitDefEqProofs only [go_sem, simprocAttr, pkV, e]
theorem c125 (p : Pk) (ho : Ok p) (sb : Bool) (z : Nat) (st : List Int) (hs : st.length < 1000000) (hv : Vst p st) (hz : st ≠ [] → z = 1) : (lim T).call 125 [pkV p, .sl sb z (st.map intV)] [] 0 [] =
    some (.fn 197 [.pp 1 [.sl (!((ress p).map rwV).isEmpty) 1 ((ress p).map rwV)] 0 0, .pp 1 [.sl true 1 (((lsT p st).map rvT).map rvV)] 0 0, .pp 3 [pkV p] 0 0], [], 0, []) := by
  rw [ent125]
  have e1 := c107 p ho
  have e2 := c123 p ho sb z st hs hv hz
  rw [lsT_eq p ho st hv] at e2
  simp only [pkV] at e1 e2
  simp -implicitDefEqProofs only [go_sem, simprocAttr, pkV, e1, e2]
abbrev Call197 (caps : List V) (xs : List (Int × Int)) : Prop := ∀ S S' b, yldAll T 0 (xs.map ptV) S = some (b, S') → (lim T).call 197 (.yld 0 :: caps) [] 0 S = some (.tup [], [], 0, S')
def env126 (p : Pk) (sb : Bool) (z : Nat) (st : List Int) (caps : List V) : Den.Env := [(7, .fn 197 caps), (6, .sl sb z (st.map intV)), (5, pkV p), (4, .ptr 1 0 0), (2, .ptr 0 0 0), (0, pkV p), (1, .sl sb z (st.map intV))]
def H126 (p : Pk) : Heap := [.cells true true 34 [pkV p], .cells true true 4 [.bool false]]
theorem first126 (p : Pk) (env : Den.Env) (he : lookV env 4 = .ptr 1 0 0) (x : Int × Int) (S : Stk) :
    runK (lim T) T true segFuel [.code a126_0, .beginRound, .code c126_0] ⟨126, 9, 2, (8, ptV x) :: env, H126 p, 0, S⟩ = some (.round (some .ret), H126 p, 0, S) := by
  unfold H126
  simp -implicitDefEqProofs only [go_sem, simprocAttr, he]
theorem c126 (p : Pk) (sb : Bool) (z : Nat) (st : List Int) (caps : List V) (hc : idsL caps = []) (hy : yldL caps = false) (xs : List (Int × Int)) (hcall : Call197 caps xs) (e1 : (lim T).call 125 [pkV p, .sl sb z (st.map intV)] [] 0 [] = some (.fn 197 caps, [], 0, [])) :
    (lim T).call 126 [pkV p, .sl sb z (st.map intV)] [] 0 [] = some (.bool xs.isEmpty, [], 0, []) := by
  rw [ent126]
  simp only [pkV] at e1
  simp -implicitDefEqProofs only [go_sem, simprocAttr, pkV, e1, hc]
  cases xs with
  | nil =>
    have e : (lim T).call 197 (.yld (List.length ([] : Stk)) :: caps) [] 0 ([] ++ [⟨126, 9, env126 p sb z st caps, H126 p, 0, (#[8] : Array Nat).toList, a126_0, c126_0, false, none⟩]) = some (.tup [], [], 0, [] ++ [⟨126, 9, env126 p sb z st caps, H126 p, 0, [8], a126_0, c126_0, false, none⟩]) := hcall _ _ _ rfl
    unfold env126 H126 pkV at e
    rw [rangeRun (f := .tmp 7) (g := 197) (caps := caps) (S := []) (ps := #[8]) rfl hc hy fct197.1 fct197.2.1 res197 rfl e]
    simp -implicitDefEqProofs only [go_sem, simprocAttr]
  | cons x xs =>
    have hr := first126 p (env126 p sb z st caps) rfl x []
    have hY := yldEq (S := []) (own := ⟨126, 9, env126 p sb z st caps, H126 p, 0, [8], a126_0, c126_0, false, none⟩) rfl (args := [ptV x]) rfl hr
    have e : (lim T).call 197 (.yld (List.length ([] : Stk)) :: caps) [] 0 ([] ++ [⟨126, 9, env126 p sb z st caps, H126 p, 0, (#[8] : Array Nat).toList, a126_0, c126_0, false, none⟩]) = some (.tup [], [], 0, [] ++ [⟨126, 9, env126 p sb z st caps, H126 p, 0, [8], a126_0, c126_0, true, some .ret⟩]) := hcall _ _ false (by
      have hY' : (lim T).yld 0 [ptV x] [⟨126, 9, env126 p sb z st caps, H126 p, 0, [8], a126_0, c126_0, false, none⟩] = some (false, [⟨126, 9, env126 p sb z st caps, H126 p, 0, [8], a126_0, c126_0, true, some .ret⟩]) := hY
      show (match (lim T).yld 0 [ptV x] [⟨126, 9, env126 p sb z st caps, H126 p, 0, [8], a126_0, c126_0, false, none⟩] with | some (true, S') => yldAll T 0 (xs.map ptV) S' | o => o) = _
      rw [hY']
      rfl)
    unfold env126 H126 pkV at e
    rw [rangeRun (f := .tmp 7) (g := 197) (caps := caps) (S := []) (ps := #[8]) rfl hc hy fct197.1 fct197.2.1 res197 rfl e]
    simp -implicitDefEqProofs only [go_sem, simprocAttr]
theorem fnz2 {a b : Int} (h : fnz [a, b] = 0) : a = 0 ∧ b = 0 := by
  simp only [fnz] at h
  by_cases h1 : a = 0
  · by_cases h2 : b = 0
    · exact ⟨h1, h2⟩
    · simp [h1, h2] at h
  · simp [h1] at h
theorem knE_ok {n : Nat} {i : Int} (h : knE n i = 0) : 0 ≤ i ∧ i < (n : Int) := by
  unfold knE at h
  cases h1 : decide (i < 0) <;> cases h2 : decide ((n : Int) ≤ i) <;> rw [h1, h2] at h <;> simp at h h1 h2
  omega
def stE (p : Pk) (st : List Int) : Int := fnz [ckPk p, ckSt p.c.length st]
theorem st_ok {p : Pk} {st : List Int} (h : stE p st = 0) : Ok p ∧ Vst p st := by
  obtain ⟨h1, h2⟩ := fnz2 h
  refine ⟨ok_of h1, fun i hi => ?_⟩
  obtain ⟨h3, _⟩ := fnz2 h2
  exact knE_ok (fnz_zero.1 h3 _ (List.mem_map.2 ⟨i, hi, rfl⟩))
def unq (p : Pk) (st : List Int) : List (Int × Int) := allP p.n 0 ((ress p).map (·.2)) (lsT p st)
theorem ress_ok {p : Pk} (ho : Ok p) : ∀ r ∈ ress p, r.2.length = slots p := by
  intro r hr
  obtain ⟨x, hx, rfl⟩ := List.mem_map.1 hr
  have h := rsd_len _ _ ((ok_rows ho x hx).2)
  have h2 := (ok_rows ho x hx).2
  have h3 := meds_len p
  simp only [rsR]
  omega
abbrev cap125 (p : Pk) (st : List Int) : List V := [.pp 1 [.sl (!((ress p).map rwV).isEmpty) 1 ((ress p).map rwV)] 0 0, .pp 1 [.sl true 1 (((lsT p st).map rvT).map rvV)] 0 0, .pp 3 [pkV p] 0 0]
theorem call125 (p : Pk) (ho : Ok p) (st : List Int) : Call197 (cap125 p st) (unq p st) := by
  intro S S' b h
  have v8 := ho.v8
  refine c197 p _ _ (ress p) ((lsT p st).map rvT) 0 (by simp [ress]; omega) (by simp [ress, lsT]) (slots p) ho.s8 (ress_ok ho) (lsT_ok st) S S' b ?_
  rw [show ((lsT p st).map rvT).map (·.2) = lsT p st by rw [List.map_map]; exact List.map_id _]
  exact h
theorem cap_pure (p : Pk) (st : List Int) : idsL (cap125 p st) = [] ∧ yldL (cap125 p st) = false := ⟨rfl, rfl⟩
theorem c29 (p : Pk) (sb : Bool) (st : List Int) (hf : p.fit) (hs : st.length < 1000000) : (lim T).call 29 [pkV p, .sl sb 1 (st.map intV)] [] 0 [] =
    some (if stE p st = 0 then .tup [.bool (unq p st).isEmpty, .int .i64 0] else .tup [.bool false, .int .i64 (stE p st)], [], 0, []) := by
  rw [ent29]
  have e1 := c122 p sb st hf hs
  rw [show fnz [ckPk p, ckSt p.c.length st] = stE p st from rfl] at e1
  simp only [pkV] at e1
  cases h : (stE p st != 0)
  · have h0 : stE p st = 0 := by simpa using h
    rw [if_pos h0]
    obtain ⟨ho, hv⟩ := st_ok h0
    have e2 := c125 p ho sb 1 st hs hv (fun _ => rfl)
    obtain ⟨i1, i2⟩ := cap_pure p st
    have e3 := c126 p sb 1 st (cap125 p st) i1 i2 (unq p st) (call125 p ho st) e2
    simp only [pkV] at e3
    simp -implicitDefEqProofs only [go_sem, simprocAttr, pkV, e1, h, e3]
  · have h0 : ¬ stE p st = 0 := by simpa using h
    rw [if_neg h0]
    simp -implicitDefEqProofs only [go_sem, simprocAttr, pkV, e1, h]
end Go.Den.FaT
namespace Go.Den.FaU
open Go Go.Proofs Go.Den Go.Den.FaT
abbrev F16 := _root_.Fin 65536
abbrev F8 := _root_.Fin 256
def exV (x : F16) : V := .int .u16 (x.val : Int)
def pxV (x : F8 × F8) : V := .agg [.int .u8 (x.1.val : Int), .int .u8 (x.2.val : Int)]
attribute [go_sem] exV pxV
def en (x : F16) : Int := 1000 + (x.val : Int)
theorem w_x (x : F16) : IntKind.i64.wrap (x.val : Int) = x.val := by have := x.isLt; rw [wrap64] <;> omega
theorem w_en (x : F16) : IntKind.i64.wrap (1000 + (x.val : Int)) = en x := by have := x.isLt; rw [wrap64] <;> (try unfold en) <;> omega
noncomputable abbrev cF : Code := .seq r11_58 (.seq r11_59 (.seq r11_60 (.seq (.seq r11_61 (.cond (.tmp 319) (.seq r11_62 .ret) .skip)) (.seq (.seq r11_63 (.block 14 (.loop b11_7))) (.seq r11_69 .ret)))))
noncomputable abbrev cE : Code := .seq r11_47 (.seq (.seq r11_48 (.block 10 (.loop b11_5))) (.seq (.seq r11_53 (.block 12 (.loop b11_6))) cF))
noncomputable abbrev cC : Code := .seq (.seq r11_33 (.cond (.tmp 156) (.seq r11_34 .ret) .skip)) (.seq r11_35 (.seq r11_36 (.seq r11_37 (.seq r11_38 (.seq (.seq r11_39 (.cond (.tmp 218) (.seq r11_40 .ret) .skip)) (.seq (.seq r11_41 (.block 8 (.loop b11_4))) cE))))))
noncomputable abbrev cA : Code := .seq r11_14 (.seq r11_15 (.seq (.seq r11_16 (.block 4 (.loop b11_2))) cC))
structure Ar where
  b : Bool
  xs : List F16
  b1 : Bool
  L : List (F8 × F8)
  n : F8
def hA (r : List Int) : Nat → Heap
  | 0 => [.cells true true 25 [.agg [.sl false 0 [], .int .i64 0, .sl false 0 []]]]
  | j + 1 => .cells true false 25 [.agg [.ref 1, .int .i64 0, .sl false 0 []]] :: .cells false false 28 ((List.range (j + 1)).map fun i => .ref (i + 2)) :: List.replicate (j + 1) (.cells false true 3 (r.map intV))
def rA : Nat → Nat
  | 0 => 1
  | j + 1 => j + 3
def LA (a : Ar) (r : List Int) (j : Nat) (o : Option (List Int)) (i : Nat) : Option Out :=
  (lim FaU.T).loop false [.code (.loop b11_1), .inBlock 2, .code r11_12, .inBlock 1, .code r11_13, .inLoop b11_0, .inBlock 0, .code cA]
    ⟨11, 338, 0, [(0, .sl a.b 1 (a.xs.map exV)), (1, .sl a.b1 2 (a.L.map pxV)), (2, .int .u8 (a.n.val : Int)), (7, .ptr 0 0 0), (8, acV o (rA j)), (55, .int .i64 j), (57, .sl a.b 1 (a.xs.map exV)), (58, .int .i64 a.xs.length), (59, .int .i64 i)], hA r j ++ acR intV o 3, 0, []⟩
theorem of7 {P : Nat → Prop} (h0 : P 0) (h1 : P 1) (h2 : P 2) (h3 : P 3) (h4 : P 4) (h5 : P 5) (h6 : P 6) {j : Nat} (h : j < 7) : P j := by
  match j, h with
  | 0, _ => exact h0
  | 1, _ => exact h1
  | 2, _ => exact h2
  | 3, _ => exact h3
  | 4, _ => exact h4
  | 5, _ => exact h5
  | 6, _ => exact h6
theorem cast7 : ((0 : Nat) : Int) = 0 ∧ ((1 : Nat) : Int) = 1 ∧ ((2 : Nat) : Int) = 2 ∧ ((3 : Nat) : Int) = 3 ∧ ((4 : Nat) : Int) = 4 ∧ ((5 : Nat) : Int) = 5 ∧ ((6 : Nat) : Int) = 6 ∧ ((7 : Nat) : Int) = 7 := by decide
theorem rng7 : List.range 1 = [0] ∧ List.range 2 = [0, 1] ∧ List.range 3 = [0, 1, 2] ∧ List.range 4 = [0, 1, 2, 3] ∧ List.range 5 = [0, 1, 2, 3, 4] ∧ List.range 6 = [0, 1, 2, 3, 4, 5] ∧ List.range 7 = [0, 1, 2, 3, 4, 5, 6] := by decide
theorem rep7 (x : Row) : List.replicate 1 x = [x] ∧ List.replicate 2 x = [x, x] ∧ List.replicate 3 x = [x, x, x] ∧ List.replicate 4 x = [x, x, x, x] ∧ List.replicate 5 x = [x, x, x, x, x] ∧ List.replicate 6 x = [x, x, x, x, x, x] ∧ List.replicate 7 x = [x, x, x, x, x, x, x] := ⟨rfl, rfl, rfl, rfl, rfl, rfl, rfl⟩
theorem loopA (a : Ar) (r : List Int) (hx : a.xs.length ≤ 4) : ∀ {j : Nat}, j < 7 → ∀ i, i ≤ a.xs.length → ∀ o, acL o = i → LA a r j o i = LA a r j (acA o ((a.xs.map en).drop i)) a.xs.length := by
  intro j hj
  refine of7 (P := fun j => ∀ i, i ≤ a.xs.length → ∀ o, acL o = i → LA a r j o i = LA a r j (acA o ((a.xs.map en).drop i)) a.xs.length) ?_ ?_ ?_ ?_ ?_ ?_ ?_ hj
  all_goals
    refine down_ind a.xs.length ?_ fun i hi ih o hO => ?_
    · intro o hO
      have h0 : (a.xs.map en).drop a.xs.length = [] := by simp
      rw [h0, acA_0]
    · obtain ⟨h1, h2, h3, h4, h5⟩ := idx_in hi (by omega)
      have e : (a.xs.map en).drop i = en a.xs[i] :: (a.xs.map en).drop (i + 1) := by
        rw [List.drop_eq_getElem_cons (by simpa using hi)]
        simp
      rw [e]
      have ih' := ih (acA o [en a.xs[i]]) (by rw [acL_A, hO]; rfl)
      rw [acA_acA] at ih'
      simp only [List.cons_append, List.nil_append] at ih'
      rw [← ih']
      conv => lhs; unfold LA; rw [loopEq]
      unfold LA
      cases o with
      | none =>
        have h8 := (row_ok (n := 0) (by omega)).2
        simp only [hA, rA, rng7, rep7, acA_n, acV_n, acR_n, acV_s, acR_s, List.nil_append, List.append_nil, List.cons_append, List.map_cons, List.map_nil, Nat.reduceAdd, intV]
        simp -implicitDefEqProofs only [go_sem, simprocAttr, h1, h2, h3, h4, h8, w_x, w_en]
      | some q =>
        have h9 : q.length = i := hO
        have h8 := (row_ok (n := q.length) (by omega)).1
        simp only [hA, rA, rng7, rep7, acA_s, acV_s, acR_s, List.nil_append, List.append_nil, List.cons_append, List.map_append, List.map_cons, List.map_nil, Nat.reduceAdd, intV]
        simp -implicitDefEqProofs only [go_sem, simprocAttr, h1, h2, h3, h4, h8, w_x, w_en]
def LO (a : Ar) (r : List Int) (j : Nat) : Option Out :=
  (lim FaU.T).loop false [.code (.loop b11_0), .inBlock 0, .code cA]
    ⟨11, 338, 0, [(0, .sl a.b 1 (a.xs.map exV)), (1, .sl a.b1 2 (a.L.map pxV)), (2, .int .u8 (a.n.val : Int)), (7, .ptr 0 0 0), (55, .int .i64 j)], hA r j, 0, []⟩
theorem en_ne (a : Ar) (h : 1 ≤ a.xs.length) : acA none (a.xs.map en) = some (a.xs.map en) := by
  cases hx : a.xs with
  | nil => rw [hx] at h; cases h
  | cons x r => rfl
theorem roundO (a : Ar) (hx : a.xs.length ≤ 4) (h1 : 1 ≤ a.xs.length) : ∀ {j : Nat}, j < 7 → LO a (a.xs.map en) j = LO a (a.xs.map en) (j + 1) := by
  intro j hj
  have hI := loopA a (a.xs.map en) hx hj 0 (by omega) none rfl
  rw [List.drop_zero, en_ne a h1] at hI
  have hE := idx_out a.xs.length
  revert hI
  refine of7 (P := fun j => LA a (a.xs.map en) j none 0 = LA a (a.xs.map en) j (some (a.xs.map en)) a.xs.length → LO a (a.xs.map en) j = LO a (a.xs.map en) (j + 1)) ?_ ?_ ?_ ?_ ?_ ?_ ?_ hj
  all_goals
    intro hI
    generalize a.xs.map en = r at *
    unfold LA at hI
    conv at hI => rhs; rw [loopEq]
    simp only [hA, rA, rng7, rep7, acV_n, acR_n, acV_s, acR_s, List.nil_append, List.append_nil, List.cons_append, List.map_cons, List.map_nil, Nat.reduceAdd, cast7] at hI
    unfold LO
    conv => lhs; rw [loopEq]
    simp only [hA, rA, rng7, rep7, List.nil_append, List.append_nil, List.cons_append, List.map_cons, List.map_nil, Nat.reduceAdd, cast7]
    simp -implicitDefEqProofs only [go_sem, simprocAttr, hI, hE, nums]
theorem d86a : den FaT.T 86 [.int .i64 0] = some (.str [48]) := den_of (by kernel_rfl) (by kernel_rfl) (fn := Tryz.f86) (by kernel_rfl) (lim_call.2 ⟨200, by kernel_rfl⟩)
theorem d86b : den FaT.T 86 [.int .i64 1] = some (.str [49]) := den_of (by kernel_rfl) (by kernel_rfl) (fn := Tryz.f86) (by kernel_rfl) (lim_call.2 ⟨200, by kernel_rfl⟩)
theorem d86c : den FaT.T 86 [.int .i64 2] = some (.str [50]) := den_of (by kernel_rfl) (by kernel_rfl) (fn := Tryz.f86) (by kernel_rfl) (lim_call.2 ⟨200, by kernel_rfl⟩)
theorem c87 (x y : Int) : (lim FaT.T).call 87 [.int .i64 x, .int .i64 y] [] 0 [] = some (.agg [.int .i64 x, .int .i64 y], [], 0, []) := by
  rw [FaT.ent87]
  simp -implicitDefEqProofs only [go_sem, simprocAttr]
theorem d87 (x y : Int) : den FaT.T 87 [.int .i64 x, .int .i64 y] = some (.agg [.int .i64 x, .int .i64 y]) := den_of (by kernel_rfl) (by kernel_rfl) (fn := Tryz.f87) (by kernel_rfl) (c87 x y)
def lo (A : F8) (k : Nat) : Int := ((A.val : Int) + (k : Int)).tmod 100
def wd (B : F8) : Int := (B.val : Int).tmod 50
def hi (A B : F8) (k : Nat) : Int := lo A k + wd B
def rm (B n : F8) : Int := (n.val : Int).tmod (wd B + 1)
def los (A B n : F8) (k : Nat) : Int := lo A k + rm B n
theorem lo_f (A : F8) (k : Nat) : ((A.val : Int) + (k : Int)).tmod 100 = lo A k := rfl
theorem wd_f (B : F8) : (B.val : Int).tmod 50 = wd B := rfl
theorem rm_f (B n : F8) : (n.val : Int).tmod (wd B + 1) = rm B n := rfl
theorem lo_b (A : F8) (k : Nat) : 0 ≤ lo A k ∧ lo A k < 100 := by unfold lo; rw [Int.tmod_eq_emod_of_nonneg (by omega)]; omega
theorem wd_b (B : F8) : 0 ≤ wd B ∧ wd B < 50 := by unfold wd; rw [Int.tmod_eq_emod_of_nonneg (by omega)]; omega
theorem rm_b (B n : F8) : 0 ≤ rm B n ∧ rm B n ≤ wd B := by
  have h := wd_b B
  unfold rm
  rw [Int.tmod_eq_emod_of_nonneg (by omega)]
  have h1 := Int.emod_nonneg (n.val : Int) (b := wd B + 1) (by omega)
  have h2 := Int.emod_lt_of_pos (n.val : Int) (b := wd B + 1) (by omega)
  omega
theorem w_8 (A : F8) : IntKind.i64.wrap (A.val : Int) = A.val := by have := A.isLt; rw [wrap64] <;> omega
theorem w_1 (A : F8) (k : Nat) (h : k < 1000) : IntKind.i64.wrap ((A.val : Int) + (k : Int)) = (A.val : Int) + (k : Int) := by have := A.isLt; rw [wrap64] <;> omega
theorem w_2 (A B : F8) (k : Nat) : IntKind.i64.wrap (lo A k + wd B) = hi A B k := by have := lo_b A k; have := wd_b B; unfold hi; rw [wrap64] <;> omega
theorem w_3 (A B : F8) (k : Nat) : IntKind.i64.wrap (hi A B k - lo A k) = wd B := by have := lo_b A k; have := wd_b B; unfold hi; rw [wrap64] <;> omega
theorem w_4 (B : F8) : IntKind.i64.wrap (wd B + 1) = wd B + 1 := by have := wd_b B; rw [wrap64] <;> omega
theorem w_5 (B : F8) : (wd B + 1 == 0) = false := by have := wd_b B; simp; omega
theorem w_6 (A B n : F8) (k : Nat) : IntKind.i64.wrap (lo A k + rm B n) = los A B n k := by have := lo_b A k; have := wd_b B; have := rm_b B n; unfold los; rw [wrap64] <;> omega
theorem w_7 (A B n : F8) (k : Nat) (y : Int) (h : 0 ≤ y ∧ y ≤ 100000) : IntKind.i64.wrap (y - los A B n k) = y - los A B n k := by have := lo_b A k; have := wd_b B; have := rm_b B n; unfold los; rw [wrap64] <;> omega
def cutS (A B n : F8) : Nat → List Int → List Int
  | _, [] => []
  | k, y :: t => (y - los A B n k) :: cutS A B n (k + 1) t
def losS (A B : F8) : Nat → Nat → List (Int × Int)
  | _, 0 => []
  | k, m + 1 => (lo A k, hi A B k) :: losS A B (k + 1) m
def offS (A : F8) : Nat → Nat → Bool
  | _, 0 => false
  | k, m + 1 => decide (0 < lo A k) || offS A (k + 1) m
theorem take_set {α : Type} (R : List α) (k : Nat) (v : α) (h : k < R.length) : (R.set k v).take (k + 1) = R.take k ++ [v] := by
  rw [List.take_succ_eq_append_getElem (by simpa using h), List.take_set, List.set_eq_of_length_le (by simp; omega)]
  simp
theorem drop_set {α : Type} (R : List α) (k : Nat) (v : α) : (R.set k v).drop (k + 1) = R.drop (k + 1) := by rw [List.drop_set_of_lt (by omega)]
theorem cut_step (A B n : F8) (R : List Int) (k : Nat) (h : k < R.length) : (R.set k (R[k] - los A B n k)).take (k + 1) ++ cutS A B n (k + 1) ((R.set k (R[k] - los A B n k)).drop (k + 1)) = R.take k ++ cutS A B n k (R.drop k) := by
  rw [take_set R k _ h, drop_set, List.drop_eq_getElem_cons h]
  simp [cutS]
def LB0 (a : Ar) (A B : F8) (q0 q2 q3 q4 q5 q6 : List Int) (R : List Int) (off : Bool) (o : Option (List (Int × Int))) (k : Nat) : Option Out :=
  (lim FaU.T).loop false [.code (.loop b11_3), .inBlock 6, .code (.seq r11_30 r11_31), .inBlock 5, .code r11_32, .inLoop b11_2, .inBlock 4, .code cC]
    ⟨11, 338, 0, [(0, .sl a.b 1 (a.xs.map exV)), (2, .int .u8 (a.n.val : Int)), (7, .ptr 0 0 0), (11, .sl false 0 []), (12, .bool off), (13, .int .i64 0), (14, .ptr 9 0 0), (15, .ptr 10 0 0), (77, .sl a.b1 2 (a.L.map pxV)), (78, .int .i64 a.L.length), (79, .int .i64 0), (92, .int .i64 a.xs.length), (93, .int .i64 k)], .cells true false 25 [.agg [.ref 1, .int .i64 0, .sl false 0 []]] :: .cells false false 28 [.ref 2, .ref 3, .ref 4, .ref 5, .ref 6, .ref 7, .ref 8] :: .cells false true 3 (q0.map intV) :: .cells false true 3 (R.map intV) :: .cells false true 3 (q2.map intV) :: .cells false true 3 (q3.map intV) :: .cells false true 3 (q4.map intV) :: .cells false true 3 (q5.map intV) :: .cells false true 3 (q6.map intV) :: .cells true true 137 [.agg [.int .u8 (A.val : Int), .int .u8 (B.val : Int)]] :: .cells true o.isNone 140 [.agg [.str [99, 48], .int .i64 1, acV o 11]] :: acR ivV o 142, 0, []⟩
theorem loopB0 (a : Ar) (A B : F8) (q0 q2 q3 q4 q5 q6 : List Int) (hx : a.xs.length ≤ 4) : ∀ k, k ≤ a.xs.length → ∀ (R : List Int), R.length = a.xs.length → (∀ j (h : j < R.length), k ≤ j → 0 ≤ R[j] ∧ R[j] ≤ 100000) → ∀ o, acL o = k → ∀ off,
    LB0 a A B q0 q2 q3 q4 q5 q6  R off o k = LB0 a A B q0 q2 q3 q4 q5 q6  (R.take k ++ cutS A B a.n k (R.drop k)) (off || offS A k (a.xs.length - k)) (acA o (losS A B k (a.xs.length - k))) a.xs.length := by
  refine down_ind a.xs.length ?_ fun k hk ih R hR hb o hO off => ?_
  · intro R hR hb o hO off
    rw [Nat.sub_self, List.take_of_length_le (by omega), List.drop_of_length_le (by omega)]
    simp only [cutS, losS, offS, List.append_nil, Bool.or_false, acA_0]
  · obtain ⟨h1, h2, h3, h4, h5⟩ := idx_in hk (by omega)
    obtain ⟨g1, g2, g3, g4, g5⟩ := idx_in (l := R) (i := k) (by omega) (by omega)
    have hkR : k < R.length := by omega
    have hy := hb k hkR (Nat.le_refl _)
    have hs : ((R.map intV).set k (.int .i64 (R[k] - los A B a.n k))) = (R.set k (R[k] - los A B a.n k)).map intV := by rw [List.map_set]; rfl
    have ih' := ih (R.set k (R[k] - los A B a.n k)) (by simpa using hR) (fun j h hj => by
      rw [List.getElem_set_ne (by omega)]
      exact hb j (by simpa using h) (by omega)) (acA o [(lo A k, hi A B k)]) (by rw [acL_A, hO]; rfl)
    rw [cut_step A B a.n R k hkR] at ih'
    rw [show a.xs.length - k = (a.xs.length - (k + 1)) + 1 by omega]
    simp only [losS, offS]
    simp only [acA_acA, List.cons_append, List.nil_append] at ih'
    have w7 := w_7 A B a.n k R[k] hy
    have w1 := w_1 A k (by omega)
    rw [← Bool.or_assoc, ← ih' (off || decide (0 < lo A k))]
    conv => lhs; unfold LB0; rw [loopEq]
    unfold LB0
    cases off <;> cases hl : decide (0 < lo A k)
    all_goals
      cases o with
      | none =>
        have h8 := row_ok (n := 0) (by omega)
        simp only [acA_n, acV_n, acR_n, acV_s, acR_s, Option.isNone_some, Option.isNone_none, List.map_cons, List.map_nil]
        simp -implicitDefEqProofs only [go_sem, simprocAttr, h1, h2, h3, h4, g2, g3, h8.2, hR, hkR, w_8, w1, lo_f, wd_f, w_2, w_3, w_4, w_5, rm_f, w_6, w7, d87, hl, hs, List.length_map, List.length_set]
      | some q =>
        have h9 : q.length = k := hO
        have h8 := (row_ok (n := q.length) (by omega)).1
        simp only [acA_s, acV_s, acR_s, Option.isNone_some, List.map_append, List.map_cons, List.map_nil]
        simp -implicitDefEqProofs only [go_sem, simprocAttr, h1, h2, h3, h4, g2, g3, h8, hR, hkR, w_8, w1, lo_f, wd_f, w_2, w_3, w_4, w_5, rm_f, w_6, w7, d87, hl, hs, List.length_map, List.length_set]
def LB1 (a : Ar) (A B : F8) (q0 q1 q2 q4 q5 q6 : List Int) (w0 : List (Int × Int)) (R : List Int) (off : Bool) (o : Option (List (Int × Int))) (k : Nat) : Option Out :=
  (lim FaU.T).loop false [.code (.loop b11_3), .inBlock 6, .code (.seq r11_30 r11_31), .inBlock 5, .code r11_32, .inLoop b11_2, .inBlock 4, .code cC]
    ⟨11, 338, 0, [(0, .sl a.b 1 (a.xs.map exV)), (2, .int .u8 (a.n.val : Int)), (7, .ptr 0 0 0), (11, .ref 11), (12, .bool off), (13, .int .i64 1), (14, .ptr 12 0 0), (15, .ptr 13 0 0), (77, .sl a.b1 2 (a.L.map pxV)), (78, .int .i64 a.L.length), (79, .int .i64 1), (92, .int .i64 a.xs.length), (93, .int .i64 k)], .cells true false 25 [.agg [.ref 1, .int .i64 0, .ref 9]] :: .cells false false 28 [.ref 2, .ref 3, .ref 4, .ref 5, .ref 6, .ref 7, .ref 8] :: .cells false true 3 (q0.map intV) :: .cells false true 3 (q1.map intV) :: .cells false true 3 (q2.map intV) :: .cells false true 3 (R.map intV) :: .cells false true 3 (q4.map intV) :: .cells false true 3 (q5.map intV) :: .cells false true 3 (q6.map intV) :: .cells false false 140 [.agg [.str [99, 48], .int .i64 1, .ref 10]] :: .cells false true 142 (w0.map ivV) :: .cells false true 3 [.int .i64 0] :: .cells true true 137 [.agg [.int .u8 (A.val : Int), .int .u8 (B.val : Int)]] :: .cells true o.isNone 140 [.agg [.str [99, 49], .int .i64 3, acV o 14]] :: acR ivV o 142, 0, []⟩
theorem loopB1 (a : Ar) (A B : F8) (q0 q1 q2 q4 q5 q6 : List Int) (w0 : List (Int × Int)) (hx : a.xs.length ≤ 4) : ∀ k, k ≤ a.xs.length → ∀ (R : List Int), R.length = a.xs.length → (∀ j (h : j < R.length), k ≤ j → 0 ≤ R[j] ∧ R[j] ≤ 100000) → ∀ o, acL o = k → ∀ off,
    LB1 a A B q0 q1 q2 q4 q5 q6 w0 R off o k = LB1 a A B q0 q1 q2 q4 q5 q6 w0 (R.take k ++ cutS A B a.n k (R.drop k)) (off || offS A k (a.xs.length - k)) (acA o (losS A B k (a.xs.length - k))) a.xs.length := by
  refine down_ind a.xs.length ?_ fun k hk ih R hR hb o hO off => ?_
  · intro R hR hb o hO off
    rw [Nat.sub_self, List.take_of_length_le (by omega), List.drop_of_length_le (by omega)]
    simp only [cutS, losS, offS, List.append_nil, Bool.or_false, acA_0]
  · obtain ⟨h1, h2, h3, h4, h5⟩ := idx_in hk (by omega)
    obtain ⟨g1, g2, g3, g4, g5⟩ := idx_in (l := R) (i := k) (by omega) (by omega)
    have hkR : k < R.length := by omega
    have hy := hb k hkR (Nat.le_refl _)
    have hs : ((R.map intV).set k (.int .i64 (R[k] - los A B a.n k))) = (R.set k (R[k] - los A B a.n k)).map intV := by rw [List.map_set]; rfl
    have ih' := ih (R.set k (R[k] - los A B a.n k)) (by simpa using hR) (fun j h hj => by
      rw [List.getElem_set_ne (by omega)]
      exact hb j (by simpa using h) (by omega)) (acA o [(lo A k, hi A B k)]) (by rw [acL_A, hO]; rfl)
    rw [cut_step A B a.n R k hkR] at ih'
    rw [show a.xs.length - k = (a.xs.length - (k + 1)) + 1 by omega]
    simp only [losS, offS]
    simp only [acA_acA, List.cons_append, List.nil_append] at ih'
    have w7 := w_7 A B a.n k R[k] hy
    have w1 := w_1 A k (by omega)
    rw [← Bool.or_assoc, ← ih' (off || decide (0 < lo A k))]
    conv => lhs; unfold LB1; rw [loopEq]
    unfold LB1
    cases off <;> cases hl : decide (0 < lo A k)
    all_goals
      cases o with
      | none =>
        have h8 := row_ok (n := 0) (by omega)
        simp only [acA_n, acV_n, acR_n, acV_s, acR_s, Option.isNone_some, Option.isNone_none, List.map_cons, List.map_nil]
        simp -implicitDefEqProofs only [go_sem, simprocAttr, h1, h2, h3, h4, g2, g3, h8.2, hR, hkR, w_8, w1, lo_f, wd_f, w_2, w_3, w_4, w_5, rm_f, w_6, w7, d87, hl, hs, List.length_map, List.length_set]
      | some q =>
        have h9 : q.length = k := hO
        have h8 := (row_ok (n := q.length) (by omega)).1
        simp only [acA_s, acV_s, acR_s, Option.isNone_some, List.map_append, List.map_cons, List.map_nil]
        simp -implicitDefEqProofs only [go_sem, simprocAttr, h1, h2, h3, h4, g2, g3, h8, hR, hkR, w_8, w1, lo_f, wd_f, w_2, w_3, w_4, w_5, rm_f, w_6, w7, d87, hl, hs, List.length_map, List.length_set]
def LB2 (a : Ar) (A B : F8) (q0 q1 q2 q3 q4 q6 : List Int) (w0 w1 : List (Int × Int)) (R : List Int) (off : Bool) (o : Option (List (Int × Int))) (k : Nat) : Option Out :=
  (lim FaU.T).loop false [.code (.loop b11_3), .inBlock 6, .code (.seq r11_30 r11_31), .inBlock 5, .code r11_32, .inLoop b11_2, .inBlock 4, .code cC]
    ⟨11, 338, 0, [(0, .sl a.b 1 (a.xs.map exV)), (2, .int .u8 (a.n.val : Int)), (7, .ptr 0 0 0), (11, .ref 12), (12, .bool off), (13, .int .i64 2), (14, .ptr 13 0 0), (15, .ptr 14 0 0), (77, .sl a.b1 2 (a.L.map pxV)), (78, .int .i64 a.L.length), (79, .int .i64 2), (92, .int .i64 a.xs.length), (93, .int .i64 k)], .cells true false 25 [.agg [.ref 1, .int .i64 0, .ref 9]] :: .cells false false 28 [.ref 2, .ref 3, .ref 4, .ref 5, .ref 6, .ref 7, .ref 8] :: .cells false true 3 (q0.map intV) :: .cells false true 3 (q1.map intV) :: .cells false true 3 (q2.map intV) :: .cells false true 3 (q3.map intV) :: .cells false true 3 (q4.map intV) :: .cells false true 3 (R.map intV) :: .cells false true 3 (q6.map intV) :: .cells false false 140 [.agg [.str [99, 48], .int .i64 1, .ref 10], .agg [.str [99, 49], .int .i64 3, .ref 11]] :: .cells false true 142 (w0.map ivV) :: .cells false true 142 (w1.map ivV) :: .cells false true 3 [.int .i64 0, .int .i64 1] :: .cells true true 137 [.agg [.int .u8 (A.val : Int), .int .u8 (B.val : Int)]] :: .cells true o.isNone 140 [.agg [.str [99, 50], .int .i64 5, acV o 15]] :: acR ivV o 142, 0, []⟩
theorem loopB2 (a : Ar) (A B : F8) (q0 q1 q2 q3 q4 q6 : List Int) (w0 w1 : List (Int × Int)) (hx : a.xs.length ≤ 4) : ∀ k, k ≤ a.xs.length → ∀ (R : List Int), R.length = a.xs.length → (∀ j (h : j < R.length), k ≤ j → 0 ≤ R[j] ∧ R[j] ≤ 100000) → ∀ o, acL o = k → ∀ off,
    LB2 a A B q0 q1 q2 q3 q4 q6 w0 w1 R off o k = LB2 a A B q0 q1 q2 q3 q4 q6 w0 w1 (R.take k ++ cutS A B a.n k (R.drop k)) (off || offS A k (a.xs.length - k)) (acA o (losS A B k (a.xs.length - k))) a.xs.length := by
  refine down_ind a.xs.length ?_ fun k hk ih R hR hb o hO off => ?_
  · intro R hR hb o hO off
    rw [Nat.sub_self, List.take_of_length_le (by omega), List.drop_of_length_le (by omega)]
    simp only [cutS, losS, offS, List.append_nil, Bool.or_false, acA_0]
  · obtain ⟨h1, h2, h3, h4, h5⟩ := idx_in hk (by omega)
    obtain ⟨g1, g2, g3, g4, g5⟩ := idx_in (l := R) (i := k) (by omega) (by omega)
    have hkR : k < R.length := by omega
    have hy := hb k hkR (Nat.le_refl _)
    have hs : ((R.map intV).set k (.int .i64 (R[k] - los A B a.n k))) = (R.set k (R[k] - los A B a.n k)).map intV := by rw [List.map_set]; rfl
    have ih' := ih (R.set k (R[k] - los A B a.n k)) (by simpa using hR) (fun j h hj => by
      rw [List.getElem_set_ne (by omega)]
      exact hb j (by simpa using h) (by omega)) (acA o [(lo A k, hi A B k)]) (by rw [acL_A, hO]; rfl)
    rw [cut_step A B a.n R k hkR] at ih'
    rw [show a.xs.length - k = (a.xs.length - (k + 1)) + 1 by omega]
    simp only [losS, offS]
    simp only [acA_acA, List.cons_append, List.nil_append] at ih'
    have w7 := w_7 A B a.n k R[k] hy
    have w1 := w_1 A k (by omega)
    rw [← Bool.or_assoc, ← ih' (off || decide (0 < lo A k))]
    conv => lhs; unfold LB2; rw [loopEq]
    unfold LB2
    cases off <;> cases hl : decide (0 < lo A k)
    all_goals
      cases o with
      | none =>
        have h8 := row_ok (n := 0) (by omega)
        simp only [acA_n, acV_n, acR_n, acV_s, acR_s, Option.isNone_some, Option.isNone_none, List.map_cons, List.map_nil]
        simp -implicitDefEqProofs only [go_sem, simprocAttr, h1, h2, h3, h4, g2, g3, h8.2, hR, hkR, w_8, w1, lo_f, wd_f, w_2, w_3, w_4, w_5, rm_f, w_6, w7, d87, hl, hs, List.length_map, List.length_set]
      | some q =>
        have h9 : q.length = k := hO
        have h8 := (row_ok (n := q.length) (by omega)).1
        simp only [acA_s, acV_s, acR_s, Option.isNone_some, List.map_append, List.map_cons, List.map_nil]
        simp -implicitDefEqProofs only [go_sem, simprocAttr, h1, h2, h3, h4, g2, g3, h8, hR, hkR, w_8, w1, lo_f, wd_f, w_2, w_3, w_4, w_5, rm_f, w_6, w7, d87, hl, hs, List.length_map, List.length_set]
theorem w_0 : IntKind.i64.wrap 0 = 0 := by decide
theorem mxS : decide (2 < maxStr) = true := by decide
theorem los_ne (A B : F8) (k m : Nat) (h : 1 ≤ m) : acA none (losS A B k m) = some (losS A B k m) := by
  cases m with
  | zero => cases h
  | succ m => rfl
def LBO0 (a : Ar) (q0 q1 q2 q3 q4 q5 q6 : List Int) (off : Bool) : Option Out :=
  (lim FaU.T).loop false [.code (.loop b11_2), .inBlock 4, .code cC]
    ⟨11, 338, 0, [(0, .sl a.b 1 (a.xs.map exV)), (2, .int .u8 (a.n.val : Int)), (7, .ptr 0 0 0), (11, .sl false 0 []), (12, .bool off), (77, .sl a.b1 2 (a.L.map pxV)), (78, .int .i64 a.L.length), (79, .int .i64 0)], [.cells true false 25 [.agg [.ref 1, .int .i64 0, .sl false 0 []]], .cells false false 28 [.ref 2, .ref 3, .ref 4, .ref 5, .ref 6, .ref 7, .ref 8], .cells false true 3 (q0.map intV), .cells false true 3 (q1.map intV), .cells false true 3 (q2.map intV), .cells false true 3 (q3.map intV), .cells false true 3 (q4.map intV), .cells false true 3 (q5.map intV), .cells false true 3 (q6.map intV)], 0, []⟩
def LBO1 (a : Ar) (q0 q1 q2 q3 q4 q5 q6 : List Int) (w0 : List (Int × Int)) (off : Bool) : Option Out :=
  (lim FaU.T).loop false [.code (.loop b11_2), .inBlock 4, .code cC]
    ⟨11, 338, 0, [(0, .sl a.b 1 (a.xs.map exV)), (2, .int .u8 (a.n.val : Int)), (7, .ptr 0 0 0), (11, .ref 11), (12, .bool off), (77, .sl a.b1 2 (a.L.map pxV)), (78, .int .i64 a.L.length), (79, .int .i64 1)], [.cells true false 25 [.agg [.ref 1, .int .i64 0, .ref 9]], .cells false false 28 [.ref 2, .ref 3, .ref 4, .ref 5, .ref 6, .ref 7, .ref 8], .cells false true 3 (q0.map intV), .cells false true 3 (q1.map intV), .cells false true 3 (q2.map intV), .cells false true 3 (q3.map intV), .cells false true 3 (q4.map intV), .cells false true 3 (q5.map intV), .cells false true 3 (q6.map intV), .cells false false 140 [.agg [.str [99, 48], .int .i64 1, .ref 10]], .cells false true 142 (w0.map ivV), .cells false true 3 [.int .i64 0]], 0, []⟩
def LBO2 (a : Ar) (q0 q1 q2 q3 q4 q5 q6 : List Int) (w0 w1 : List (Int × Int)) (off : Bool) : Option Out :=
  (lim FaU.T).loop false [.code (.loop b11_2), .inBlock 4, .code cC]
    ⟨11, 338, 0, [(0, .sl a.b 1 (a.xs.map exV)), (2, .int .u8 (a.n.val : Int)), (7, .ptr 0 0 0), (11, .ref 12), (12, .bool off), (77, .sl a.b1 2 (a.L.map pxV)), (78, .int .i64 a.L.length), (79, .int .i64 2)], [.cells true false 25 [.agg [.ref 1, .int .i64 0, .ref 9]], .cells false false 28 [.ref 2, .ref 3, .ref 4, .ref 5, .ref 6, .ref 7, .ref 8], .cells false true 3 (q0.map intV), .cells false true 3 (q1.map intV), .cells false true 3 (q2.map intV), .cells false true 3 (q3.map intV), .cells false true 3 (q4.map intV), .cells false true 3 (q5.map intV), .cells false true 3 (q6.map intV), .cells false false 140 [.agg [.str [99, 48], .int .i64 1, .ref 10], .agg [.str [99, 49], .int .i64 3, .ref 11]], .cells false true 142 (w0.map ivV), .cells false true 142 (w1.map ivV), .cells false true 3 [.int .i64 0, .int .i64 1]], 0, []⟩
def LBO3 (a : Ar) (q0 q1 q2 q3 q4 q5 q6 : List Int) (w0 w1 w2 : List (Int × Int)) (off : Bool) : Option Out :=
  (lim FaU.T).loop false [.code (.loop b11_2), .inBlock 4, .code cC]
    ⟨11, 338, 0, [(0, .sl a.b 1 (a.xs.map exV)), (2, .int .u8 (a.n.val : Int)), (7, .ptr 0 0 0), (11, .ref 13), (12, .bool off), (77, .sl a.b1 2 (a.L.map pxV)), (78, .int .i64 a.L.length), (79, .int .i64 3)], [.cells true false 25 [.agg [.ref 1, .int .i64 0, .ref 9]], .cells false false 28 [.ref 2, .ref 3, .ref 4, .ref 5, .ref 6, .ref 7, .ref 8], .cells false true 3 (q0.map intV), .cells false true 3 (q1.map intV), .cells false true 3 (q2.map intV), .cells false true 3 (q3.map intV), .cells false true 3 (q4.map intV), .cells false true 3 (q5.map intV), .cells false true 3 (q6.map intV), .cells false false 140 [.agg [.str [99, 48], .int .i64 1, .ref 10], .agg [.str [99, 49], .int .i64 3, .ref 11], .agg [.str [99, 50], .int .i64 5, .ref 12]], .cells false true 142 (w0.map ivV), .cells false true 142 (w1.map ivV), .cells false true 142 (w2.map ivV), .cells false true 3 [.int .i64 0, .int .i64 1, .int .i64 2]], 0, []⟩
theorem roundB0 (a : Ar) (A B : F8) (q0 q1 q2 q3 q4 q5 q6 : List Int) (off : Bool) (hx : a.xs.length ≤ 4) (h1 : 1 ≤ a.xs.length) (hi : 0 < a.L.length) (hL : a.L[0]? = some (A, B)) (hR : q1.length = a.xs.length)
    (hb : ∀ j (h : j < q1.length), 0 ≤ j → 0 ≤ q1[j] ∧ q1[j] ≤ 100000) :
    LBO0 a q0 q1 q2 q3 q4 q5 q6 off = LBO1 a q0 (cutS A B a.n 0 q1) q2 q3 q4 q5 q6 (losS A B 0 a.xs.length) (off || offS A 0 a.xs.length) := by
  have hI := loopB0 a A B q0 q2 q3 q4 q5 q6 hx 0 (by omega) q1 hR hb none rfl off
  rw [List.take_zero, List.drop_zero, List.nil_append, Nat.sub_zero, los_ne A B 0 _ h1] at hI
  have hE := idx_out a.xs.length
  have d1 : decide ((0 : Int) < (a.L.length : Int)) = true := by simp; omega
  generalize cutS A B a.n 0 q1 = R' at *
  generalize losS A B 0 a.xs.length = W at *
  generalize (off || offS A 0 a.xs.length) = off' at *
  unfold LB0 at hI
  conv at hI => rhs; rw [loopEq]
  simp only [acV_n, acR_n, acV_s, acR_s, Option.isNone_some, Option.isNone_none, cast7] at hI
  unfold LBO0 LBO1
  conv => lhs; rw [loopEq]
  simp -implicitDefEqProofs only [go_sem, simprocAttr, d1, hL, true_and, w_0, nums, mxS, d86a, d86b, d86c, hI, hE]
theorem roundB1 (a : Ar) (A B : F8) (q0 q1 q2 q3 q4 q5 q6 : List Int) (w0 : List (Int × Int)) (off : Bool) (hx : a.xs.length ≤ 4) (h1 : 1 ≤ a.xs.length) (hi : 1 < a.L.length) (hL : a.L[1]? = some (A, B)) (hR : q3.length = a.xs.length)
    (hb : ∀ j (h : j < q3.length), 0 ≤ j → 0 ≤ q3[j] ∧ q3[j] ≤ 100000) :
    LBO1 a q0 q1 q2 q3 q4 q5 q6 w0 off = LBO2 a q0 q1 q2 (cutS A B a.n 0 q3) q4 q5 q6 w0 (losS A B 0 a.xs.length) (off || offS A 0 a.xs.length) := by
  have hI := loopB1 a A B q0 q1 q2 q4 q5 q6 w0 hx 0 (by omega) q3 hR hb none rfl off
  rw [List.take_zero, List.drop_zero, List.nil_append, Nat.sub_zero, los_ne A B 0 _ h1] at hI
  have hE := idx_out a.xs.length
  have d1 : decide ((1 : Int) < (a.L.length : Int)) = true := by simp; omega
  generalize cutS A B a.n 0 q3 = R' at *
  generalize losS A B 0 a.xs.length = W at *
  generalize (off || offS A 0 a.xs.length) = off' at *
  unfold LB1 at hI
  conv at hI => rhs; rw [loopEq]
  simp only [acV_n, acR_n, acV_s, acR_s, Option.isNone_some, Option.isNone_none, cast7] at hI
  unfold LBO1 LBO2
  conv => lhs; rw [loopEq]
  simp -implicitDefEqProofs only [go_sem, simprocAttr, d1, hL, true_and, w_0, nums, mxS, d86a, d86b, d86c, hI, hE]
theorem roundB2 (a : Ar) (A B : F8) (q0 q1 q2 q3 q4 q5 q6 : List Int) (w0 w1 : List (Int × Int)) (off : Bool) (hx : a.xs.length ≤ 4) (h1 : 1 ≤ a.xs.length) (hi : 2 < a.L.length) (hL : a.L[2]? = some (A, B)) (hR : q5.length = a.xs.length)
    (hb : ∀ j (h : j < q5.length), 0 ≤ j → 0 ≤ q5[j] ∧ q5[j] ≤ 100000) :
    LBO2 a q0 q1 q2 q3 q4 q5 q6 w0 w1 off = LBO3 a q0 q1 q2 q3 q4 (cutS A B a.n 0 q5) q6 w0 w1 (losS A B 0 a.xs.length) (off || offS A 0 a.xs.length) := by
  have hI := loopB2 a A B q0 q1 q2 q3 q4 q6 w0 w1 hx 0 (by omega) q5 hR hb none rfl off
  rw [List.take_zero, List.drop_zero, List.nil_append, Nat.sub_zero, los_ne A B 0 _ h1] at hI
  have hE := idx_out a.xs.length
  have d1 : decide ((2 : Int) < (a.L.length : Int)) = true := by simp; omega
  generalize cutS A B a.n 0 q5 = R' at *
  generalize losS A B 0 a.xs.length = W at *
  generalize (off || offS A 0 a.xs.length) = off' at *
  unfold LB2 at hI
  conv at hI => rhs; rw [loopEq]
  simp only [acV_n, acR_n, acV_s, acR_s, Option.isNone_some, Option.isNone_none, cast7] at hI
  unfold LBO2 LBO3
  conv => lhs; rw [loopEq]
  simp -implicitDefEqProofs only [go_sem, simprocAttr, d1, hL, true_and, w_0, nums, mxS, d86a, d86b, d86c, hI, hE]
def LD0 (a : Ar) (q0 q1 q2 q3 q4 q5 q6 r0 r1 r2 r3 r4 r5 r6 : List Int) (k : Nat) : Option Out :=
  (lim FaU.T).loop false [.code (.loop b11_4), .inBlock 8, .code cE]
    ⟨11, 338, 0, [(7, .ptr 0 0 0), (11, .sl false 0 []), (20, .sl true 1 ((a.xs.map en).map intV)), (26, .sl true 1 [.sl true 1 (r0.map intV), .sl true 1 (r1.map intV), .sl true 1 (r2.map intV), .sl true 1 (r3.map intV), .sl true 1 (r4.map intV), .sl true 1 (r5.map intV), .sl true 1 (r6.map intV)]), (219, .sl a.b 1 (a.xs.map exV)), (220, .int .i64 a.xs.length), (221, .int .i64 k)], [.cells true false 25 [.agg [.ref 1, .int .i64 0, .sl false 0 []]], .cells false true 28 [.sl true 1 (q0.map intV), .sl true 1 (q1.map intV), .sl true 1 (q2.map intV), .sl true 1 (q3.map intV), .sl true 1 (q4.map intV), .sl true 1 (q5.map intV), .sl true 1 (q6.map intV)]], 2, []⟩
theorem tC0 (a : Ar) (q0 q1 q2 q3 q4 q5 q6 r0 r1 r2 r3 r4 r5 r6 : List Int) (off nn : Bool) (hL : a.L.length = 0)
    (e20 : den FaT.T 20 [.agg [.sl true 1 [.sl true 1 (q0.map intV), .sl true 1 (q1.map intV), .sl true 1 (q2.map intV), .sl true 1 (q3.map intV), .sl true 1 (q4.map intV), .sl true 1 (q5.map intV), .sl true 1 (q6.map intV)], .int .i64 0, .sl false 3 []]] = some (.int .i64 0)) (e18 : den FaT.T 18 [.agg [.sl true 1 [.sl true 1 (q0.map intV), .sl true 1 (q1.map intV), .sl true 1 (q2.map intV), .sl true 1 (q3.map intV), .sl true 1 (q4.map intV), .sl true 1 (q5.map intV), .sl true 1 (q6.map intV)], .int .i64 0, .sl false 3 []]] = some (.agg [.sl true 1 [.sl true 1 (q0.map intV), .sl true 1 (q1.map intV), .sl true 1 (q2.map intV), .sl true 1 (q3.map intV), .sl true 1 (q4.map intV), .sl true 1 (q5.map intV), .sl true 1 (q6.map intV)], .int .i64 0, .sl false 0 []])) (e17 : den FaT.T 17 [.agg [.sl true 1 [.sl true 1 (q0.map intV), .sl true 1 (q1.map intV), .sl true 1 (q2.map intV), .sl true 1 (q3.map intV), .sl true 1 (q4.map intV), .sl true 1 (q5.map intV), .sl true 1 (q6.map intV)], .int .i64 0, .sl false 3 []]] = some (.tup [.sl true 1 ((a.xs.map en).map intV), .int .i64 0]))
    (e27 : den FaT.T 27 [.sl false 1 []] = some (.sl true 1 [])) (e29 : den FaT.T 29 [.agg [.sl true 1 [.sl true 1 (q0.map intV), .sl true 1 (q1.map intV), .sl true 1 (q2.map intV), .sl true 1 (q3.map intV), .sl true 1 (q4.map intV), .sl true 1 (q5.map intV), .sl true 1 (q6.map intV)], .int .i64 0, .sl false 3 []], .sl true 1 []] = some (.tup [.bool true, .int .i64 0]))
    (e29n : den FaT.T 29 [.agg [.sl true 1 [.sl true 1 (q0.map intV), .sl true 1 (q1.map intV), .sl true 1 (q2.map intV), .sl true 1 (q3.map intV), .sl true 1 (q4.map intV), .sl true 1 (q5.map intV), .sl true 1 (q6.map intV)], .int .i64 0, .sl false 3 []], .sl false 1 []] = some (.tup [.bool nn, .int .i64 0])) (e19 : den FaT.T 19 [.agg [.sl true 1 [.sl true 1 (q0.map intV), .sl true 1 (q1.map intV), .sl true 1 (q2.map intV), .sl true 1 (q3.map intV), .sl true 1 (q4.map intV), .sl true 1 (q5.map intV), .sl true 1 (q6.map intV)], .int .i64 0, .sl false 3 []]] = some (.tup [.sl true 1 [.sl true 1 (r0.map intV), .sl true 1 (r1.map intV), .sl true 1 (r2.map intV), .sl true 1 (r3.map intV), .sl true 1 (r4.map intV), .sl true 1 (r5.map intV), .sl true 1 (r6.map intV)], .int .i64 0]))
    (hoff : (off && nn) = false) : LBO0 a q0 q1 q2 q3 q4 q5 q6 off = LD0 a q0 q1 q2 q3 q4 q5 q6 r0 r1 r2 r3 r4 r5 r6 0 := by
  unfold LBO0 LD0
  conv => lhs; rw [loopEq]
  have d1 : decide ((0 : Int) < (a.L.length : Int)) = false := decide_eq_false (by omega)
  have d2 : ((a.xs.length : Int) != (a.xs.length : Int)) = false := by simp
  have hM : (a.xs.map en).length = a.xs.length := by simp
  generalize a.xs.map en = M at *
  cases off <;> cases nn <;> first | (cases hoff; done) | skip
  all_goals simp -implicitDefEqProofs only [go_sem, simprocAttr, d1, e20, e18, e17, e27, e29, e29n, e19, hM, d2, nums, w_0, cast7]
theorem loopD0 (a : Ar) (q0 q1 q2 q3 q4 q5 q6 r0 r1 r2 r3 r4 r5 r6 : List Int) (hx : a.xs.length ≤ 4) : ∀ k, k ≤ a.xs.length → LD0 a q0 q1 q2 q3 q4 q5 q6 r0 r1 r2 r3 r4 r5 r6 k = LD0 a q0 q1 q2 q3 q4 q5 q6 r0 r1 r2 r3 r4 r5 r6 a.xs.length := by
  refine down_ind a.xs.length rfl fun k hk ih => ?_
  obtain ⟨h1, h2, h3, h4, h5⟩ := idx_in hk (by omega)
  obtain ⟨g1, g2, g3, g4, g5⟩ := idx_in (l := a.xs.map en) (i := k) (by simpa using hk) (by simp; omega)
  have g3' : (a.xs.map en)[k]? = some (en a.xs[k]) := by rw [List.getElem?_map, h3]; rfl
  have hM : (a.xs.map en).length = a.xs.length := by simp
  have d : (en a.xs[k] != en a.xs[k]) = false := by simp
  rw [hM] at g2
  clear g1 g3 g5
  rw [← ih]
  conv => lhs; unfold LD0; rw [loopEq]
  unfold LD0
  generalize a.xs.map en = M at *
  simp -implicitDefEqProofs only [go_sem, simprocAttr, h1, h2, h3, h4, g2, g3', hM, w_x, w_en, d]
def LD1 (a : Ar) (q0 q1 q2 q3 q4 q5 q6 r0 r1 r2 r3 r4 r5 r6 : List Int) (w0 : List (Int × Int)) (k : Nat) : Option Out :=
  (lim FaU.T).loop false [.code (.loop b11_4), .inBlock 8, .code cE]
    ⟨11, 338, 0, [(7, .ptr 0 0 0), (11, .ref 3), (20, .sl true 1 ((a.xs.map en).map intV)), (26, .sl true 1 [.sl true 1 (r0.map intV), .sl true 1 (r1.map intV), .sl true 1 (r2.map intV), .sl true 1 (r3.map intV), .sl true 1 (r4.map intV), .sl true 1 (r5.map intV), .sl true 1 (r6.map intV)]), (219, .sl a.b 1 (a.xs.map exV)), (220, .int .i64 a.xs.length), (221, .int .i64 k)], [.cells true false 25 [.agg [.ref 1, .int .i64 0, .ref 2]], .cells false true 28 [.sl true 1 (q0.map intV), .sl true 1 (q1.map intV), .sl true 1 (q2.map intV), .sl true 1 (q3.map intV), .sl true 1 (q4.map intV), .sl true 1 (q5.map intV), .sl true 1 (q6.map intV)], .cells false true 140 [.agg [.str [99, 48], .int .i64 1, .sl true 2 (w0.map ivV)]], .cells false true 3 [.int .i64 0]], 14, []⟩
theorem tC1 (a : Ar) (q0 q1 q2 q3 q4 q5 q6 r0 r1 r2 r3 r4 r5 r6 : List Int) (w0 : List (Int × Int)) (off nn : Bool) (hL : a.L.length = 1)
    (e20 : den FaT.T 20 [.agg [.sl true 1 [.sl true 1 (q0.map intV), .sl true 1 (q1.map intV), .sl true 1 (q2.map intV), .sl true 1 (q3.map intV), .sl true 1 (q4.map intV), .sl true 1 (q5.map intV), .sl true 1 (q6.map intV)], .int .i64 0, .sl true 3 [.agg [.str [99, 48], .int .i64 1, .sl true 2 (w0.map ivV)]]]] = some (.int .i64 0)) (e18 : den FaT.T 18 [.agg [.sl true 1 [.sl true 1 (q0.map intV), .sl true 1 (q1.map intV), .sl true 1 (q2.map intV), .sl true 1 (q3.map intV), .sl true 1 (q4.map intV), .sl true 1 (q5.map intV), .sl true 1 (q6.map intV)], .int .i64 0, .sl true 3 [.agg [.str [99, 48], .int .i64 1, .sl true 2 (w0.map ivV)]]]] = some (.agg [.sl true 1 [.sl true 1 (q0.map intV), .sl true 1 (q1.map intV), .sl true 1 (q2.map intV), .sl true 1 (q3.map intV), .sl true 1 (q4.map intV), .sl true 1 (q5.map intV), .sl true 1 (q6.map intV)], .int .i64 0, .sl true 3 [.agg [.str [99, 48], .int .i64 1, .sl true 2 (w0.map ivV)]]])) (e17 : den FaT.T 17 [.agg [.sl true 1 [.sl true 1 (q0.map intV), .sl true 1 (q1.map intV), .sl true 1 (q2.map intV), .sl true 1 (q3.map intV), .sl true 1 (q4.map intV), .sl true 1 (q5.map intV), .sl true 1 (q6.map intV)], .int .i64 0, .sl true 3 [.agg [.str [99, 48], .int .i64 1, .sl true 2 (w0.map ivV)]]]] = some (.tup [.sl true 1 ((a.xs.map en).map intV), .int .i64 0]))
    (e27 : den FaT.T 27 [.sl true 1 [.int .i64 0]] = some (.sl true 1 [.int .i64 0])) (e29 : den FaT.T 29 [.agg [.sl true 1 [.sl true 1 (q0.map intV), .sl true 1 (q1.map intV), .sl true 1 (q2.map intV), .sl true 1 (q3.map intV), .sl true 1 (q4.map intV), .sl true 1 (q5.map intV), .sl true 1 (q6.map intV)], .int .i64 0, .sl true 3 [.agg [.str [99, 48], .int .i64 1, .sl true 2 (w0.map ivV)]]], .sl true 1 [.int .i64 0]] = some (.tup [.bool true, .int .i64 0]))
    (e29n : den FaT.T 29 [.agg [.sl true 1 [.sl true 1 (q0.map intV), .sl true 1 (q1.map intV), .sl true 1 (q2.map intV), .sl true 1 (q3.map intV), .sl true 1 (q4.map intV), .sl true 1 (q5.map intV), .sl true 1 (q6.map intV)], .int .i64 0, .sl true 3 [.agg [.str [99, 48], .int .i64 1, .sl true 2 (w0.map ivV)]]], .sl false 1 []] = some (.tup [.bool nn, .int .i64 0])) (e19 : den FaT.T 19 [.agg [.sl true 1 [.sl true 1 (q0.map intV), .sl true 1 (q1.map intV), .sl true 1 (q2.map intV), .sl true 1 (q3.map intV), .sl true 1 (q4.map intV), .sl true 1 (q5.map intV), .sl true 1 (q6.map intV)], .int .i64 0, .sl true 3 [.agg [.str [99, 48], .int .i64 1, .sl true 2 (w0.map ivV)]]]] = some (.tup [.sl true 1 [.sl true 1 (r0.map intV), .sl true 1 (r1.map intV), .sl true 1 (r2.map intV), .sl true 1 (r3.map intV), .sl true 1 (r4.map intV), .sl true 1 (r5.map intV), .sl true 1 (r6.map intV)], .int .i64 0]))
    (hoff : (off && nn) = false) : LBO1 a q0 q1 q2 q3 q4 q5 q6 w0 off = LD1 a q0 q1 q2 q3 q4 q5 q6 r0 r1 r2 r3 r4 r5 r6 w0 0 := by
  unfold LBO1 LD1
  conv => lhs; rw [loopEq]
  have d1 : decide ((1 : Int) < (a.L.length : Int)) = false := decide_eq_false (by omega)
  have d2 : ((a.xs.length : Int) != (a.xs.length : Int)) = false := by simp
  have hM : (a.xs.map en).length = a.xs.length := by simp
  generalize a.xs.map en = M at *
  cases off <;> cases nn <;> first | (cases hoff; done) | skip
  all_goals simp -implicitDefEqProofs only [go_sem, simprocAttr, d1, e20, e18, e17, e27, e29, e29n, e19, hM, d2, nums, w_0, cast7]
theorem loopD1 (a : Ar) (q0 q1 q2 q3 q4 q5 q6 r0 r1 r2 r3 r4 r5 r6 : List Int) (w0 : List (Int × Int)) (hx : a.xs.length ≤ 4) : ∀ k, k ≤ a.xs.length → LD1 a q0 q1 q2 q3 q4 q5 q6 r0 r1 r2 r3 r4 r5 r6 w0 k = LD1 a q0 q1 q2 q3 q4 q5 q6 r0 r1 r2 r3 r4 r5 r6 w0 a.xs.length := by
  refine down_ind a.xs.length rfl fun k hk ih => ?_
  obtain ⟨h1, h2, h3, h4, h5⟩ := idx_in hk (by omega)
  obtain ⟨g1, g2, g3, g4, g5⟩ := idx_in (l := a.xs.map en) (i := k) (by simpa using hk) (by simp; omega)
  have g3' : (a.xs.map en)[k]? = some (en a.xs[k]) := by rw [List.getElem?_map, h3]; rfl
  have hM : (a.xs.map en).length = a.xs.length := by simp
  have d : (en a.xs[k] != en a.xs[k]) = false := by simp
  rw [hM] at g2
  clear g1 g3 g5
  rw [← ih]
  conv => lhs; unfold LD1; rw [loopEq]
  unfold LD1
  generalize a.xs.map en = M at *
  simp -implicitDefEqProofs only [go_sem, simprocAttr, h1, h2, h3, h4, g2, g3', hM, w_x, w_en, d]
def LD2 (a : Ar) (q0 q1 q2 q3 q4 q5 q6 r0 r1 r2 r3 r4 r5 r6 : List Int) (w0 w1 : List (Int × Int)) (k : Nat) : Option Out :=
  (lim FaU.T).loop false [.code (.loop b11_4), .inBlock 8, .code cE]
    ⟨11, 338, 0, [(7, .ptr 0 0 0), (11, .ref 3), (20, .sl true 1 ((a.xs.map en).map intV)), (26, .sl true 1 [.sl true 1 (r0.map intV), .sl true 1 (r1.map intV), .sl true 1 (r2.map intV), .sl true 1 (r3.map intV), .sl true 1 (r4.map intV), .sl true 1 (r5.map intV), .sl true 1 (r6.map intV)]), (219, .sl a.b 1 (a.xs.map exV)), (220, .int .i64 a.xs.length), (221, .int .i64 k)], [.cells true false 25 [.agg [.ref 1, .int .i64 0, .ref 2]], .cells false true 28 [.sl true 1 (q0.map intV), .sl true 1 (q1.map intV), .sl true 1 (q2.map intV), .sl true 1 (q3.map intV), .sl true 1 (q4.map intV), .sl true 1 (q5.map intV), .sl true 1 (q6.map intV)], .cells false true 140 [.agg [.str [99, 48], .int .i64 1, .sl true 2 (w0.map ivV)], .agg [.str [99, 49], .int .i64 3, .sl true 2 (w1.map ivV)]], .cells false true 3 [.int .i64 0, .int .i64 1]], 14, []⟩
theorem tC2 (a : Ar) (q0 q1 q2 q3 q4 q5 q6 r0 r1 r2 r3 r4 r5 r6 : List Int) (w0 w1 : List (Int × Int)) (off nn : Bool) (hL : a.L.length = 2)
    (e20 : den FaT.T 20 [.agg [.sl true 1 [.sl true 1 (q0.map intV), .sl true 1 (q1.map intV), .sl true 1 (q2.map intV), .sl true 1 (q3.map intV), .sl true 1 (q4.map intV), .sl true 1 (q5.map intV), .sl true 1 (q6.map intV)], .int .i64 0, .sl true 3 [.agg [.str [99, 48], .int .i64 1, .sl true 2 (w0.map ivV)], .agg [.str [99, 49], .int .i64 3, .sl true 2 (w1.map ivV)]]]] = some (.int .i64 0)) (e18 : den FaT.T 18 [.agg [.sl true 1 [.sl true 1 (q0.map intV), .sl true 1 (q1.map intV), .sl true 1 (q2.map intV), .sl true 1 (q3.map intV), .sl true 1 (q4.map intV), .sl true 1 (q5.map intV), .sl true 1 (q6.map intV)], .int .i64 0, .sl true 3 [.agg [.str [99, 48], .int .i64 1, .sl true 2 (w0.map ivV)], .agg [.str [99, 49], .int .i64 3, .sl true 2 (w1.map ivV)]]]] = some (.agg [.sl true 1 [.sl true 1 (q0.map intV), .sl true 1 (q1.map intV), .sl true 1 (q2.map intV), .sl true 1 (q3.map intV), .sl true 1 (q4.map intV), .sl true 1 (q5.map intV), .sl true 1 (q6.map intV)], .int .i64 0, .sl true 3 [.agg [.str [99, 48], .int .i64 1, .sl true 2 (w0.map ivV)], .agg [.str [99, 49], .int .i64 3, .sl true 2 (w1.map ivV)]]])) (e17 : den FaT.T 17 [.agg [.sl true 1 [.sl true 1 (q0.map intV), .sl true 1 (q1.map intV), .sl true 1 (q2.map intV), .sl true 1 (q3.map intV), .sl true 1 (q4.map intV), .sl true 1 (q5.map intV), .sl true 1 (q6.map intV)], .int .i64 0, .sl true 3 [.agg [.str [99, 48], .int .i64 1, .sl true 2 (w0.map ivV)], .agg [.str [99, 49], .int .i64 3, .sl true 2 (w1.map ivV)]]]] = some (.tup [.sl true 1 ((a.xs.map en).map intV), .int .i64 0]))
    (e27 : den FaT.T 27 [.sl true 1 [.int .i64 0, .int .i64 1]] = some (.sl true 1 [.int .i64 0, .int .i64 1])) (e29 : den FaT.T 29 [.agg [.sl true 1 [.sl true 1 (q0.map intV), .sl true 1 (q1.map intV), .sl true 1 (q2.map intV), .sl true 1 (q3.map intV), .sl true 1 (q4.map intV), .sl true 1 (q5.map intV), .sl true 1 (q6.map intV)], .int .i64 0, .sl true 3 [.agg [.str [99, 48], .int .i64 1, .sl true 2 (w0.map ivV)], .agg [.str [99, 49], .int .i64 3, .sl true 2 (w1.map ivV)]]], .sl true 1 [.int .i64 0, .int .i64 1]] = some (.tup [.bool true, .int .i64 0]))
    (e29n : den FaT.T 29 [.agg [.sl true 1 [.sl true 1 (q0.map intV), .sl true 1 (q1.map intV), .sl true 1 (q2.map intV), .sl true 1 (q3.map intV), .sl true 1 (q4.map intV), .sl true 1 (q5.map intV), .sl true 1 (q6.map intV)], .int .i64 0, .sl true 3 [.agg [.str [99, 48], .int .i64 1, .sl true 2 (w0.map ivV)], .agg [.str [99, 49], .int .i64 3, .sl true 2 (w1.map ivV)]]], .sl false 1 []] = some (.tup [.bool nn, .int .i64 0])) (e19 : den FaT.T 19 [.agg [.sl true 1 [.sl true 1 (q0.map intV), .sl true 1 (q1.map intV), .sl true 1 (q2.map intV), .sl true 1 (q3.map intV), .sl true 1 (q4.map intV), .sl true 1 (q5.map intV), .sl true 1 (q6.map intV)], .int .i64 0, .sl true 3 [.agg [.str [99, 48], .int .i64 1, .sl true 2 (w0.map ivV)], .agg [.str [99, 49], .int .i64 3, .sl true 2 (w1.map ivV)]]]] = some (.tup [.sl true 1 [.sl true 1 (r0.map intV), .sl true 1 (r1.map intV), .sl true 1 (r2.map intV), .sl true 1 (r3.map intV), .sl true 1 (r4.map intV), .sl true 1 (r5.map intV), .sl true 1 (r6.map intV)], .int .i64 0]))
    (hoff : (off && nn) = false) : LBO2 a q0 q1 q2 q3 q4 q5 q6 w0 w1 off = LD2 a q0 q1 q2 q3 q4 q5 q6 r0 r1 r2 r3 r4 r5 r6 w0 w1 0 := by
  unfold LBO2 LD2
  conv => lhs; rw [loopEq]
  have d1 : decide ((2 : Int) < (a.L.length : Int)) = false := decide_eq_false (by omega)
  have d2 : ((a.xs.length : Int) != (a.xs.length : Int)) = false := by simp
  have hM : (a.xs.map en).length = a.xs.length := by simp
  generalize a.xs.map en = M at *
  cases off <;> cases nn <;> first | (cases hoff; done) | skip
  all_goals simp -implicitDefEqProofs only [go_sem, simprocAttr, d1, e20, e18, e17, e27, e29, e29n, e19, hM, d2, nums, w_0, cast7]
theorem loopD2 (a : Ar) (q0 q1 q2 q3 q4 q5 q6 r0 r1 r2 r3 r4 r5 r6 : List Int) (w0 w1 : List (Int × Int)) (hx : a.xs.length ≤ 4) : ∀ k, k ≤ a.xs.length → LD2 a q0 q1 q2 q3 q4 q5 q6 r0 r1 r2 r3 r4 r5 r6 w0 w1 k = LD2 a q0 q1 q2 q3 q4 q5 q6 r0 r1 r2 r3 r4 r5 r6 w0 w1 a.xs.length := by
  refine down_ind a.xs.length rfl fun k hk ih => ?_
  obtain ⟨h1, h2, h3, h4, h5⟩ := idx_in hk (by omega)
  obtain ⟨g1, g2, g3, g4, g5⟩ := idx_in (l := a.xs.map en) (i := k) (by simpa using hk) (by simp; omega)
  have g3' : (a.xs.map en)[k]? = some (en a.xs[k]) := by rw [List.getElem?_map, h3]; rfl
  have hM : (a.xs.map en).length = a.xs.length := by simp
  have d : (en a.xs[k] != en a.xs[k]) = false := by simp
  rw [hM] at g2
  clear g1 g3 g5
  rw [← ih]
  conv => lhs; unfold LD2; rw [loopEq]
  unfold LD2
  generalize a.xs.map en = M at *
  simp -implicitDefEqProofs only [go_sem, simprocAttr, h1, h2, h3, h4, g2, g3', hM, w_x, w_en, d]
def LD3 (a : Ar) (q0 q1 q2 q3 q4 q5 q6 r0 r1 r2 r3 r4 r5 r6 : List Int) (w0 w1 w2 : List (Int × Int)) (k : Nat) : Option Out :=
  (lim FaU.T).loop false [.code (.loop b11_4), .inBlock 8, .code cE]
    ⟨11, 338, 0, [(7, .ptr 0 0 0), (11, .ref 3), (20, .sl true 1 ((a.xs.map en).map intV)), (26, .sl true 1 [.sl true 1 (r0.map intV), .sl true 1 (r1.map intV), .sl true 1 (r2.map intV), .sl true 1 (r3.map intV), .sl true 1 (r4.map intV), .sl true 1 (r5.map intV), .sl true 1 (r6.map intV)]), (219, .sl a.b 1 (a.xs.map exV)), (220, .int .i64 a.xs.length), (221, .int .i64 k)], [.cells true false 25 [.agg [.ref 1, .int .i64 0, .ref 2]], .cells false true 28 [.sl true 1 (q0.map intV), .sl true 1 (q1.map intV), .sl true 1 (q2.map intV), .sl true 1 (q3.map intV), .sl true 1 (q4.map intV), .sl true 1 (q5.map intV), .sl true 1 (q6.map intV)], .cells false true 140 [.agg [.str [99, 48], .int .i64 1, .sl true 2 (w0.map ivV)], .agg [.str [99, 49], .int .i64 3, .sl true 2 (w1.map ivV)], .agg [.str [99, 50], .int .i64 5, .sl true 2 (w2.map ivV)]], .cells false true 3 [.int .i64 0, .int .i64 1, .int .i64 2]], 14, []⟩
theorem tC3 (a : Ar) (q0 q1 q2 q3 q4 q5 q6 r0 r1 r2 r3 r4 r5 r6 : List Int) (w0 w1 w2 : List (Int × Int)) (off nn : Bool) (hL : a.L.length = 3)
    (e20 : den FaT.T 20 [.agg [.sl true 1 [.sl true 1 (q0.map intV), .sl true 1 (q1.map intV), .sl true 1 (q2.map intV), .sl true 1 (q3.map intV), .sl true 1 (q4.map intV), .sl true 1 (q5.map intV), .sl true 1 (q6.map intV)], .int .i64 0, .sl true 3 [.agg [.str [99, 48], .int .i64 1, .sl true 2 (w0.map ivV)], .agg [.str [99, 49], .int .i64 3, .sl true 2 (w1.map ivV)], .agg [.str [99, 50], .int .i64 5, .sl true 2 (w2.map ivV)]]]] = some (.int .i64 0)) (e18 : den FaT.T 18 [.agg [.sl true 1 [.sl true 1 (q0.map intV), .sl true 1 (q1.map intV), .sl true 1 (q2.map intV), .sl true 1 (q3.map intV), .sl true 1 (q4.map intV), .sl true 1 (q5.map intV), .sl true 1 (q6.map intV)], .int .i64 0, .sl true 3 [.agg [.str [99, 48], .int .i64 1, .sl true 2 (w0.map ivV)], .agg [.str [99, 49], .int .i64 3, .sl true 2 (w1.map ivV)], .agg [.str [99, 50], .int .i64 5, .sl true 2 (w2.map ivV)]]]] = some (.agg [.sl true 1 [.sl true 1 (q0.map intV), .sl true 1 (q1.map intV), .sl true 1 (q2.map intV), .sl true 1 (q3.map intV), .sl true 1 (q4.map intV), .sl true 1 (q5.map intV), .sl true 1 (q6.map intV)], .int .i64 0, .sl true 3 [.agg [.str [99, 48], .int .i64 1, .sl true 2 (w0.map ivV)], .agg [.str [99, 49], .int .i64 3, .sl true 2 (w1.map ivV)], .agg [.str [99, 50], .int .i64 5, .sl true 2 (w2.map ivV)]]])) (e17 : den FaT.T 17 [.agg [.sl true 1 [.sl true 1 (q0.map intV), .sl true 1 (q1.map intV), .sl true 1 (q2.map intV), .sl true 1 (q3.map intV), .sl true 1 (q4.map intV), .sl true 1 (q5.map intV), .sl true 1 (q6.map intV)], .int .i64 0, .sl true 3 [.agg [.str [99, 48], .int .i64 1, .sl true 2 (w0.map ivV)], .agg [.str [99, 49], .int .i64 3, .sl true 2 (w1.map ivV)], .agg [.str [99, 50], .int .i64 5, .sl true 2 (w2.map ivV)]]]] = some (.tup [.sl true 1 ((a.xs.map en).map intV), .int .i64 0]))
    (e27 : den FaT.T 27 [.sl true 1 [.int .i64 0, .int .i64 1, .int .i64 2]] = some (.sl true 1 [.int .i64 0, .int .i64 1, .int .i64 2])) (e29 : den FaT.T 29 [.agg [.sl true 1 [.sl true 1 (q0.map intV), .sl true 1 (q1.map intV), .sl true 1 (q2.map intV), .sl true 1 (q3.map intV), .sl true 1 (q4.map intV), .sl true 1 (q5.map intV), .sl true 1 (q6.map intV)], .int .i64 0, .sl true 3 [.agg [.str [99, 48], .int .i64 1, .sl true 2 (w0.map ivV)], .agg [.str [99, 49], .int .i64 3, .sl true 2 (w1.map ivV)], .agg [.str [99, 50], .int .i64 5, .sl true 2 (w2.map ivV)]]], .sl true 1 [.int .i64 0, .int .i64 1, .int .i64 2]] = some (.tup [.bool true, .int .i64 0]))
    (e29n : den FaT.T 29 [.agg [.sl true 1 [.sl true 1 (q0.map intV), .sl true 1 (q1.map intV), .sl true 1 (q2.map intV), .sl true 1 (q3.map intV), .sl true 1 (q4.map intV), .sl true 1 (q5.map intV), .sl true 1 (q6.map intV)], .int .i64 0, .sl true 3 [.agg [.str [99, 48], .int .i64 1, .sl true 2 (w0.map ivV)], .agg [.str [99, 49], .int .i64 3, .sl true 2 (w1.map ivV)], .agg [.str [99, 50], .int .i64 5, .sl true 2 (w2.map ivV)]]], .sl false 1 []] = some (.tup [.bool nn, .int .i64 0])) (e19 : den FaT.T 19 [.agg [.sl true 1 [.sl true 1 (q0.map intV), .sl true 1 (q1.map intV), .sl true 1 (q2.map intV), .sl true 1 (q3.map intV), .sl true 1 (q4.map intV), .sl true 1 (q5.map intV), .sl true 1 (q6.map intV)], .int .i64 0, .sl true 3 [.agg [.str [99, 48], .int .i64 1, .sl true 2 (w0.map ivV)], .agg [.str [99, 49], .int .i64 3, .sl true 2 (w1.map ivV)], .agg [.str [99, 50], .int .i64 5, .sl true 2 (w2.map ivV)]]]] = some (.tup [.sl true 1 [.sl true 1 (r0.map intV), .sl true 1 (r1.map intV), .sl true 1 (r2.map intV), .sl true 1 (r3.map intV), .sl true 1 (r4.map intV), .sl true 1 (r5.map intV), .sl true 1 (r6.map intV)], .int .i64 0]))
    (hoff : (off && nn) = false) : LBO3 a q0 q1 q2 q3 q4 q5 q6 w0 w1 w2 off = LD3 a q0 q1 q2 q3 q4 q5 q6 r0 r1 r2 r3 r4 r5 r6 w0 w1 w2 0 := by
  unfold LBO3 LD3
  conv => lhs; rw [loopEq]
  have d1 : decide ((3 : Int) < (a.L.length : Int)) = false := decide_eq_false (by omega)
  have d2 : ((a.xs.length : Int) != (a.xs.length : Int)) = false := by simp
  have hM : (a.xs.map en).length = a.xs.length := by simp
  generalize a.xs.map en = M at *
  cases off <;> cases nn <;> first | (cases hoff; done) | skip
  all_goals simp -implicitDefEqProofs only [go_sem, simprocAttr, d1, e20, e18, e17, e27, e29, e29n, e19, hM, d2, nums, w_0, cast7]
theorem loopD3 (a : Ar) (q0 q1 q2 q3 q4 q5 q6 r0 r1 r2 r3 r4 r5 r6 : List Int) (w0 w1 w2 : List (Int × Int)) (hx : a.xs.length ≤ 4) : ∀ k, k ≤ a.xs.length → LD3 a q0 q1 q2 q3 q4 q5 q6 r0 r1 r2 r3 r4 r5 r6 w0 w1 w2 k = LD3 a q0 q1 q2 q3 q4 q5 q6 r0 r1 r2 r3 r4 r5 r6 w0 w1 w2 a.xs.length := by
  refine down_ind a.xs.length rfl fun k hk ih => ?_
  obtain ⟨h1, h2, h3, h4, h5⟩ := idx_in hk (by omega)
  obtain ⟨g1, g2, g3, g4, g5⟩ := idx_in (l := a.xs.map en) (i := k) (by simpa using hk) (by simp; omega)
  have g3' : (a.xs.map en)[k]? = some (en a.xs[k]) := by rw [List.getElem?_map, h3]; rfl
  have hM : (a.xs.map en).length = a.xs.length := by simp
  have d : (en a.xs[k] != en a.xs[k]) = false := by simp
  rw [hM] at g2
  clear g1 g3 g5
  rw [← ih]
  conv => lhs; unfold LD3; rw [loopEq]
  unfold LD3
  generalize a.xs.map en = M at *
  simp -implicitDefEqProofs only [go_sem, simprocAttr, h1, h2, h3, h4, g2, g3', hM, w_x, w_en, d]
end Go.Den.FaU
namespace Go.Den
open Go
theorem appRow_ne {T : Tab} {k : V → Prog} (e id : Nat) (xs : List V) (h : xs.isEmpty = false) (fl : Bool) (ety : TypeId) (l : List V) : appRow T e id xs k (.cells false fl ety l) =
    needP (T.size ety == T.size e) (needP (decide ((l ++ xs).length < maxRow)) (.set id .dead (newP (.cells false (fl && pureL xs) ety (l ++ xs)) fun id' => k (.ref id')))) := by
  cases xs with
  | nil => cases h
  | cons x r => rfl
end Go.Den
namespace Go.Den.FaU
open Go Go.Proofs Go.Den Go.Den.FaT
theorem tE0 (a : Ar) (q0 q1 q2 q3 q4 q5 q6 r0 r1 r2 r3 r4 r5 r6 : List Int) (he0 : (q0.map intV).isEmpty = false) (hn0 : decide (q0.length < maxRow) = true) (he1 : (q1.map intV).isEmpty = false) (hn1 : decide (q1.length < maxRow) = true) (he2 : (q2.map intV).isEmpty = false) (hn2 : decide (q2.length < maxRow) = true) (he3 : (q3.map intV).isEmpty = false) (hn3 : decide (q3.length < maxRow) = true) (he4 : (q4.map intV).isEmpty = false) (hn4 : decide (q4.length < maxRow) = true) (he5 : (q5.map intV).isEmpty = false) (hn5 : decide (q5.length < maxRow) = true) (he6 : (q6.map intV).isEmpty = false) (hn6 : decide (q6.length < maxRow) = true)
    (e18 : den FaT.T 18 [.agg [.sl true 1 [.sl true 1 (q6.map intV), .sl true 1 (q5.map intV), .sl true 1 (q4.map intV), .sl true 1 (q3.map intV), .sl true 1 (q2.map intV), .sl true 1 (q1.map intV), .sl true 1 (q0.map intV)], .int .i64 0, .sl false 3 []]] = some (.agg [.sl true 1 [.sl true 1 (q6.map intV), .sl true 1 (q5.map intV), .sl true 1 (q4.map intV), .sl true 1 (q3.map intV), .sl true 1 (q2.map intV), .sl true 1 (q1.map intV), .sl true 1 (q0.map intV)], .int .i64 0, .sl false 0 []])) (e17 : den FaT.T 17 [.agg [.sl true 1 [.sl true 1 (q6.map intV), .sl true 1 (q5.map intV), .sl true 1 (q4.map intV), .sl true 1 (q3.map intV), .sl true 1 (q2.map intV), .sl true 1 (q1.map intV), .sl true 1 (q0.map intV)], .int .i64 0, .sl false 3 []]] = some (.tup [.sl true 1 ((a.xs.map en).map intV), .int .i64 0]))
    (e27 : den FaT.T 27 [.sl false 1 []] = some (.sl true 1 [])) (e29 : den FaT.T 29 [.agg [.sl true 1 [.sl true 1 (q6.map intV), .sl true 1 (q5.map intV), .sl true 1 (q4.map intV), .sl true 1 (q3.map intV), .sl true 1 (q2.map intV), .sl true 1 (q1.map intV), .sl true 1 (q0.map intV)], .int .i64 0, .sl false 3 []], .sl true 1 []] = some (.tup [.bool true, .int .i64 0]))
    (e19 : den FaT.T 19 [.agg [.sl true 1 [.sl true 1 (q6.map intV), .sl true 1 (q5.map intV), .sl true 1 (q4.map intV), .sl true 1 (q3.map intV), .sl true 1 (q2.map intV), .sl true 1 (q1.map intV), .sl true 1 (q0.map intV)], .int .i64 0, .sl false 3 []]] = some (.tup [.sl true 1 [.sl true 1 (r6.map intV), .sl true 1 (r5.map intV), .sl true 1 (r4.map intV), .sl true 1 (r3.map intV), .sl true 1 (r2.map intV), .sl true 1 (r1.map intV), .sl true 1 (r0.map intV)], .int .i64 0]))
    (e89 : ∀ l : List Int, l.length ≤ 8 → den FaT.T 89 [.sl true 1 (l.map intV), .sl true 1 (l.map intV)] = some (.bool true)) (hx : a.xs.length ≤ 4) (hr : ∀ r ∈ [r0, r1, r2, r3, r4, r5, r6], r.length ≤ 8) (e16 : den FaT.T 16 [] = some (.bool true)) :
    LD0 a q0 q1 q2 q3 q4 q5 q6 r0 r1 r2 r3 r4 r5 r6 a.xs.length = some (.ret (.bool true), [], 0, []) := by
  unfold LD0
  conv => lhs; rw [loopEq]
  have hE := idx_out a.xs.length
  have eM := e89 (a.xs.map en) (by simp; omega)
  have e0 := e89 r0 (hr _ (by simp))
  have e1 := e89 r1 (hr _ (by simp))
  have e2 := e89 r2 (hr _ (by simp))
  have e3 := e89 r3 (hr _ (by simp))
  have e4 := e89 r4 (hr _ (by simp))
  have e5 := e89 r5 (hr _ (by simp))
  have e6 := e89 r6 (hr _ (by simp))
  clear e89 hr
  generalize a.xs.map en = M at *
  simp -implicitDefEqProofs only [go_sem, simprocAttr, hE, nums, w_0, cast7, callP_r, backId_eq, frzAllP_cons, appRow_ne, FaU.ent88, FaU.ent172, e18, e17, e27, e29, e19, e0, e1, e2, e3, e4, e5, e6, eM, e16, he0, hn0, he1, hn1, he2, hn2, he3, hn3, he4, hn4, he5, hn5, he6, hn6]
  repeat (rw [loopEq]; simp -implicitDefEqProofs only [go_sem, simprocAttr, hE, nums, w_0, cast7, callP_r, backId_eq, frzAllP_cons, appRow_ne, FaU.ent88, FaU.ent172, e18, e17, e27, e29, e19, e0, e1, e2, e3, e4, e5, e6, eM, e16, he0, hn0, he1, hn1, he2, hn2, he3, hn3, he4, hn4, he5, hn5, he6, hn6])
theorem tE1 (a : Ar) (q0 q1 q2 q3 q4 q5 q6 r0 r1 r2 r3 r4 r5 r6 : List Int) (w0 : List (Int × Int)) (he0 : (q0.map intV).isEmpty = false) (hn0 : decide (q0.length < maxRow) = true) (he1 : (q1.map intV).isEmpty = false) (hn1 : decide (q1.length < maxRow) = true) (he2 : (q2.map intV).isEmpty = false) (hn2 : decide (q2.length < maxRow) = true) (he3 : (q3.map intV).isEmpty = false) (hn3 : decide (q3.length < maxRow) = true) (he4 : (q4.map intV).isEmpty = false) (hn4 : decide (q4.length < maxRow) = true) (he5 : (q5.map intV).isEmpty = false) (hn5 : decide (q5.length < maxRow) = true) (he6 : (q6.map intV).isEmpty = false) (hn6 : decide (q6.length < maxRow) = true) (hw0 : (w0.map ivV).isEmpty = false) (hv0 : decide (w0.length < maxRow) = true)
    (e18 : den FaT.T 18 [.agg [.sl true 1 [.sl true 1 (q6.map intV), .sl true 1 (q5.map intV), .sl true 1 (q4.map intV), .sl true 1 (q3.map intV), .sl true 1 (q2.map intV), .sl true 1 (q1.map intV), .sl true 1 (q0.map intV)], .int .i64 0, .sl true 3 [.agg [.str [99, 48], .int .i64 5, .sl true 2 (w0.map ivV)]]]] = some (.agg [.sl true 1 [.sl true 1 (q6.map intV), .sl true 1 (q5.map intV), .sl true 1 (q4.map intV), .sl true 1 (q3.map intV), .sl true 1 (q2.map intV), .sl true 1 (q1.map intV), .sl true 1 (q0.map intV)], .int .i64 0, .sl true 3 [.agg [.str [99, 48], .int .i64 5, .sl true 2 (w0.map ivV)]]])) (e17 : den FaT.T 17 [.agg [.sl true 1 [.sl true 1 (q6.map intV), .sl true 1 (q5.map intV), .sl true 1 (q4.map intV), .sl true 1 (q3.map intV), .sl true 1 (q2.map intV), .sl true 1 (q1.map intV), .sl true 1 (q0.map intV)], .int .i64 0, .sl true 3 [.agg [.str [99, 48], .int .i64 5, .sl true 2 (w0.map ivV)]]]] = some (.tup [.sl true 1 ((a.xs.map en).map intV), .int .i64 0]))
    (e27 : den FaT.T 27 [.sl true 1 [.int .i64 0]] = some (.sl true 1 [.int .i64 0])) (e29 : den FaT.T 29 [.agg [.sl true 1 [.sl true 1 (q6.map intV), .sl true 1 (q5.map intV), .sl true 1 (q4.map intV), .sl true 1 (q3.map intV), .sl true 1 (q2.map intV), .sl true 1 (q1.map intV), .sl true 1 (q0.map intV)], .int .i64 0, .sl true 3 [.agg [.str [99, 48], .int .i64 5, .sl true 2 (w0.map ivV)]]], .sl true 1 [.int .i64 0]] = some (.tup [.bool true, .int .i64 0]))
    (e19 : den FaT.T 19 [.agg [.sl true 1 [.sl true 1 (q6.map intV), .sl true 1 (q5.map intV), .sl true 1 (q4.map intV), .sl true 1 (q3.map intV), .sl true 1 (q2.map intV), .sl true 1 (q1.map intV), .sl true 1 (q0.map intV)], .int .i64 0, .sl true 3 [.agg [.str [99, 48], .int .i64 5, .sl true 2 (w0.map ivV)]]]] = some (.tup [.sl true 1 [.sl true 1 (r6.map intV), .sl true 1 (r5.map intV), .sl true 1 (r4.map intV), .sl true 1 (r3.map intV), .sl true 1 (r2.map intV), .sl true 1 (r1.map intV), .sl true 1 (r0.map intV)], .int .i64 0]))
    (e89 : ∀ l : List Int, l.length ≤ 8 → den FaT.T 89 [.sl true 1 (l.map intV), .sl true 1 (l.map intV)] = some (.bool true)) (hx : a.xs.length ≤ 4) (hr : ∀ r ∈ [r0, r1, r2, r3, r4, r5, r6], r.length ≤ 8) (e16 : den FaT.T 16 [] = some (.bool true)) :
    LD1 a q0 q1 q2 q3 q4 q5 q6 r0 r1 r2 r3 r4 r5 r6 w0 a.xs.length = some (.ret (.bool true), [], 0, []) := by
  unfold LD1
  conv => lhs; rw [loopEq]
  have hE := idx_out a.xs.length
  have eM := e89 (a.xs.map en) (by simp; omega)
  have e0 := e89 r0 (hr _ (by simp))
  have e1 := e89 r1 (hr _ (by simp))
  have e2 := e89 r2 (hr _ (by simp))
  have e3 := e89 r3 (hr _ (by simp))
  have e4 := e89 r4 (hr _ (by simp))
  have e5 := e89 r5 (hr _ (by simp))
  have e6 := e89 r6 (hr _ (by simp))
  clear e89 hr
  generalize a.xs.map en = M at *
  simp -implicitDefEqProofs only [go_sem, simprocAttr, hE, nums, w_0, cast7, callP_r, backId_eq, frzAllP_cons, appRow_ne, FaU.ent88, FaU.ent172, e18, e17, e27, e29, e19, e0, e1, e2, e3, e4, e5, e6, eM, e16, he0, hn0, he1, hn1, he2, hn2, he3, hn3, he4, hn4, he5, hn5, he6, hn6, hw0, hv0]
  repeat (rw [loopEq]; simp -implicitDefEqProofs only [go_sem, simprocAttr, hE, nums, w_0, cast7, callP_r, backId_eq, frzAllP_cons, appRow_ne, FaU.ent88, FaU.ent172, e18, e17, e27, e29, e19, e0, e1, e2, e3, e4, e5, e6, eM, e16, he0, hn0, he1, hn1, he2, hn2, he3, hn3, he4, hn4, he5, hn5, he6, hn6, hw0, hv0])
theorem tE2 (a : Ar) (q0 q1 q2 q3 q4 q5 q6 r0 r1 r2 r3 r4 r5 r6 : List Int) (w0 w1 : List (Int × Int)) (he0 : (q0.map intV).isEmpty = false) (hn0 : decide (q0.length < maxRow) = true) (he1 : (q1.map intV).isEmpty = false) (hn1 : decide (q1.length < maxRow) = true) (he2 : (q2.map intV).isEmpty = false) (hn2 : decide (q2.length < maxRow) = true) (he3 : (q3.map intV).isEmpty = false) (hn3 : decide (q3.length < maxRow) = true) (he4 : (q4.map intV).isEmpty = false) (hn4 : decide (q4.length < maxRow) = true) (he5 : (q5.map intV).isEmpty = false) (hn5 : decide (q5.length < maxRow) = true) (he6 : (q6.map intV).isEmpty = false) (hn6 : decide (q6.length < maxRow) = true) (hw0 : (w0.map ivV).isEmpty = false) (hv0 : decide (w0.length < maxRow) = true) (hw1 : (w1.map ivV).isEmpty = false) (hv1 : decide (w1.length < maxRow) = true)
    (e18 : den FaT.T 18 [.agg [.sl true 1 [.sl true 1 (q6.map intV), .sl true 1 (q5.map intV), .sl true 1 (q4.map intV), .sl true 1 (q3.map intV), .sl true 1 (q2.map intV), .sl true 1 (q1.map intV), .sl true 1 (q0.map intV)], .int .i64 0, .sl true 3 [.agg [.str [99, 48], .int .i64 5, .sl true 2 (w0.map ivV)], .agg [.str [99, 49], .int .i64 3, .sl true 2 (w1.map ivV)]]]] = some (.agg [.sl true 1 [.sl true 1 (q6.map intV), .sl true 1 (q5.map intV), .sl true 1 (q4.map intV), .sl true 1 (q3.map intV), .sl true 1 (q2.map intV), .sl true 1 (q1.map intV), .sl true 1 (q0.map intV)], .int .i64 0, .sl true 3 [.agg [.str [99, 48], .int .i64 5, .sl true 2 (w0.map ivV)], .agg [.str [99, 49], .int .i64 3, .sl true 2 (w1.map ivV)]]])) (e17 : den FaT.T 17 [.agg [.sl true 1 [.sl true 1 (q6.map intV), .sl true 1 (q5.map intV), .sl true 1 (q4.map intV), .sl true 1 (q3.map intV), .sl true 1 (q2.map intV), .sl true 1 (q1.map intV), .sl true 1 (q0.map intV)], .int .i64 0, .sl true 3 [.agg [.str [99, 48], .int .i64 5, .sl true 2 (w0.map ivV)], .agg [.str [99, 49], .int .i64 3, .sl true 2 (w1.map ivV)]]]] = some (.tup [.sl true 1 ((a.xs.map en).map intV), .int .i64 0]))
    (e27 : den FaT.T 27 [.sl true 1 [.int .i64 0, .int .i64 1]] = some (.sl true 1 [.int .i64 0, .int .i64 1])) (e29 : den FaT.T 29 [.agg [.sl true 1 [.sl true 1 (q6.map intV), .sl true 1 (q5.map intV), .sl true 1 (q4.map intV), .sl true 1 (q3.map intV), .sl true 1 (q2.map intV), .sl true 1 (q1.map intV), .sl true 1 (q0.map intV)], .int .i64 0, .sl true 3 [.agg [.str [99, 48], .int .i64 5, .sl true 2 (w0.map ivV)], .agg [.str [99, 49], .int .i64 3, .sl true 2 (w1.map ivV)]]], .sl true 1 [.int .i64 0, .int .i64 1]] = some (.tup [.bool true, .int .i64 0]))
    (e19 : den FaT.T 19 [.agg [.sl true 1 [.sl true 1 (q6.map intV), .sl true 1 (q5.map intV), .sl true 1 (q4.map intV), .sl true 1 (q3.map intV), .sl true 1 (q2.map intV), .sl true 1 (q1.map intV), .sl true 1 (q0.map intV)], .int .i64 0, .sl true 3 [.agg [.str [99, 48], .int .i64 5, .sl true 2 (w0.map ivV)], .agg [.str [99, 49], .int .i64 3, .sl true 2 (w1.map ivV)]]]] = some (.tup [.sl true 1 [.sl true 1 (r6.map intV), .sl true 1 (r5.map intV), .sl true 1 (r4.map intV), .sl true 1 (r3.map intV), .sl true 1 (r2.map intV), .sl true 1 (r1.map intV), .sl true 1 (r0.map intV)], .int .i64 0]))
    (e89 : ∀ l : List Int, l.length ≤ 8 → den FaT.T 89 [.sl true 1 (l.map intV), .sl true 1 (l.map intV)] = some (.bool true)) (hx : a.xs.length ≤ 4) (hr : ∀ r ∈ [r0, r1, r2, r3, r4, r5, r6], r.length ≤ 8) (e16 : den FaT.T 16 [] = some (.bool true)) :
    LD2 a q0 q1 q2 q3 q4 q5 q6 r0 r1 r2 r3 r4 r5 r6 w0 w1 a.xs.length = some (.ret (.bool true), [], 0, []) := by
  unfold LD2
  conv => lhs; rw [loopEq]
  have hE := idx_out a.xs.length
  have eM := e89 (a.xs.map en) (by simp; omega)
  have e0 := e89 r0 (hr _ (by simp))
  have e1 := e89 r1 (hr _ (by simp))
  have e2 := e89 r2 (hr _ (by simp))
  have e3 := e89 r3 (hr _ (by simp))
  have e4 := e89 r4 (hr _ (by simp))
  have e5 := e89 r5 (hr _ (by simp))
  have e6 := e89 r6 (hr _ (by simp))
  clear e89 hr
  generalize a.xs.map en = M at *
  simp -implicitDefEqProofs only [go_sem, simprocAttr, hE, nums, w_0, cast7, callP_r, backId_eq, frzAllP_cons, appRow_ne, FaU.ent88, FaU.ent172, e18, e17, e27, e29, e19, e0, e1, e2, e3, e4, e5, e6, eM, e16, he0, hn0, he1, hn1, he2, hn2, he3, hn3, he4, hn4, he5, hn5, he6, hn6, hw0, hv0, hw1, hv1]
  repeat (rw [loopEq]; simp -implicitDefEqProofs only [go_sem, simprocAttr, hE, nums, w_0, cast7, callP_r, backId_eq, frzAllP_cons, appRow_ne, FaU.ent88, FaU.ent172, e18, e17, e27, e29, e19, e0, e1, e2, e3, e4, e5, e6, eM, e16, he0, hn0, he1, hn1, he2, hn2, he3, hn3, he4, hn4, he5, hn5, he6, hn6, hw0, hv0, hw1, hv1])
theorem tE3 (a : Ar) (q0 q1 q2 q3 q4 q5 q6 r0 r1 r2 r3 r4 r5 r6 : List Int) (w0 w1 w2 : List (Int × Int)) (he0 : (q0.map intV).isEmpty = false) (hn0 : decide (q0.length < maxRow) = true) (he1 : (q1.map intV).isEmpty = false) (hn1 : decide (q1.length < maxRow) = true) (he2 : (q2.map intV).isEmpty = false) (hn2 : decide (q2.length < maxRow) = true) (he3 : (q3.map intV).isEmpty = false) (hn3 : decide (q3.length < maxRow) = true) (he4 : (q4.map intV).isEmpty = false) (hn4 : decide (q4.length < maxRow) = true) (he5 : (q5.map intV).isEmpty = false) (hn5 : decide (q5.length < maxRow) = true) (he6 : (q6.map intV).isEmpty = false) (hn6 : decide (q6.length < maxRow) = true) (hw0 : (w0.map ivV).isEmpty = false) (hv0 : decide (w0.length < maxRow) = true) (hw1 : (w1.map ivV).isEmpty = false) (hv1 : decide (w1.length < maxRow) = true) (hw2 : (w2.map ivV).isEmpty = false) (hv2 : decide (w2.length < maxRow) = true)
    (e18 : den FaT.T 18 [.agg [.sl true 1 [.sl true 1 (q6.map intV), .sl true 1 (q5.map intV), .sl true 1 (q4.map intV), .sl true 1 (q3.map intV), .sl true 1 (q2.map intV), .sl true 1 (q1.map intV), .sl true 1 (q0.map intV)], .int .i64 0, .sl true 3 [.agg [.str [99, 48], .int .i64 5, .sl true 2 (w0.map ivV)], .agg [.str [99, 49], .int .i64 3, .sl true 2 (w1.map ivV)], .agg [.str [99, 50], .int .i64 1, .sl true 2 (w2.map ivV)]]]] = some (.agg [.sl true 1 [.sl true 1 (q6.map intV), .sl true 1 (q5.map intV), .sl true 1 (q4.map intV), .sl true 1 (q3.map intV), .sl true 1 (q2.map intV), .sl true 1 (q1.map intV), .sl true 1 (q0.map intV)], .int .i64 0, .sl true 3 [.agg [.str [99, 48], .int .i64 5, .sl true 2 (w0.map ivV)], .agg [.str [99, 49], .int .i64 3, .sl true 2 (w1.map ivV)], .agg [.str [99, 50], .int .i64 1, .sl true 2 (w2.map ivV)]]])) (e17 : den FaT.T 17 [.agg [.sl true 1 [.sl true 1 (q6.map intV), .sl true 1 (q5.map intV), .sl true 1 (q4.map intV), .sl true 1 (q3.map intV), .sl true 1 (q2.map intV), .sl true 1 (q1.map intV), .sl true 1 (q0.map intV)], .int .i64 0, .sl true 3 [.agg [.str [99, 48], .int .i64 5, .sl true 2 (w0.map ivV)], .agg [.str [99, 49], .int .i64 3, .sl true 2 (w1.map ivV)], .agg [.str [99, 50], .int .i64 1, .sl true 2 (w2.map ivV)]]]] = some (.tup [.sl true 1 ((a.xs.map en).map intV), .int .i64 0]))
    (e27 : den FaT.T 27 [.sl true 1 [.int .i64 0, .int .i64 1, .int .i64 2]] = some (.sl true 1 [.int .i64 0, .int .i64 1, .int .i64 2])) (e29 : den FaT.T 29 [.agg [.sl true 1 [.sl true 1 (q6.map intV), .sl true 1 (q5.map intV), .sl true 1 (q4.map intV), .sl true 1 (q3.map intV), .sl true 1 (q2.map intV), .sl true 1 (q1.map intV), .sl true 1 (q0.map intV)], .int .i64 0, .sl true 3 [.agg [.str [99, 48], .int .i64 5, .sl true 2 (w0.map ivV)], .agg [.str [99, 49], .int .i64 3, .sl true 2 (w1.map ivV)], .agg [.str [99, 50], .int .i64 1, .sl true 2 (w2.map ivV)]]], .sl true 1 [.int .i64 0, .int .i64 1, .int .i64 2]] = some (.tup [.bool true, .int .i64 0]))
    (e19 : den FaT.T 19 [.agg [.sl true 1 [.sl true 1 (q6.map intV), .sl true 1 (q5.map intV), .sl true 1 (q4.map intV), .sl true 1 (q3.map intV), .sl true 1 (q2.map intV), .sl true 1 (q1.map intV), .sl true 1 (q0.map intV)], .int .i64 0, .sl true 3 [.agg [.str [99, 48], .int .i64 5, .sl true 2 (w0.map ivV)], .agg [.str [99, 49], .int .i64 3, .sl true 2 (w1.map ivV)], .agg [.str [99, 50], .int .i64 1, .sl true 2 (w2.map ivV)]]]] = some (.tup [.sl true 1 [.sl true 1 (r6.map intV), .sl true 1 (r5.map intV), .sl true 1 (r4.map intV), .sl true 1 (r3.map intV), .sl true 1 (r2.map intV), .sl true 1 (r1.map intV), .sl true 1 (r0.map intV)], .int .i64 0]))
    (e89 : ∀ l : List Int, l.length ≤ 8 → den FaT.T 89 [.sl true 1 (l.map intV), .sl true 1 (l.map intV)] = some (.bool true)) (hx : a.xs.length ≤ 4) (hr : ∀ r ∈ [r0, r1, r2, r3, r4, r5, r6], r.length ≤ 8) (e16 : den FaT.T 16 [] = some (.bool true)) :
    LD3 a q0 q1 q2 q3 q4 q5 q6 r0 r1 r2 r3 r4 r5 r6 w0 w1 w2 a.xs.length = some (.ret (.bool true), [], 0, []) := by
  unfold LD3
  conv => lhs; rw [loopEq]
  have hE := idx_out a.xs.length
  have eM := e89 (a.xs.map en) (by simp; omega)
  have e0 := e89 r0 (hr _ (by simp))
  have e1 := e89 r1 (hr _ (by simp))
  have e2 := e89 r2 (hr _ (by simp))
  have e3 := e89 r3 (hr _ (by simp))
  have e4 := e89 r4 (hr _ (by simp))
  have e5 := e89 r5 (hr _ (by simp))
  have e6 := e89 r6 (hr _ (by simp))
  clear e89 hr
  generalize a.xs.map en = M at *
  simp -implicitDefEqProofs only [go_sem, simprocAttr, hE, nums, w_0, cast7, callP_r, backId_eq, frzAllP_cons, appRow_ne, FaU.ent88, FaU.ent172, e18, e17, e27, e29, e19, e0, e1, e2, e3, e4, e5, e6, eM, e16, he0, hn0, he1, hn1, he2, hn2, he3, hn3, he4, hn4, he5, hn5, he6, hn6, hw0, hv0, hw1, hv1, hw2, hv2]
  repeat (rw [loopEq]; simp -implicitDefEqProofs only [go_sem, simprocAttr, hE, nums, w_0, cast7, callP_r, backId_eq, frzAllP_cons, appRow_ne, FaU.ent88, FaU.ent172, e18, e17, e27, e29, e19, e0, e1, e2, e3, e4, e5, e6, eM, e16, he0, hn0, he1, hn1, he2, hn2, he3, hn3, he4, hn4, he5, hn5, he6, hn6, hw0, hv0, hw1, hv1, hw2, hv2])
end Go.Den.FaU
namespace Go.Den.FaT
open Go Go.Proofs Go.Den
def mkPk (rows : List (List Int)) (C : List Cz) : Pk := ⟨true, rows.map fun r => (true, r), 0, !C.isEmpty, C⟩
theorem szd_ok {n : Nat} (h : 0 < n) (h8 : n ≤ 8) : szd n 8 = 0 := by
  unfold szd
  have h1 : ((n : Int) == 0) = false := by simp; omega
  have h2 : decide ((8 : Int) < (n : Int)) = false := decide_eq_false (by omega)
  rw [h1, h2]; rfl
theorem ckE_0 {n : Int} (h : 0 ≤ n ∧ n ≤ 1000000) : ckE n = 0 := by
  unfold ckE
  rw [rng_eq]
  rw [if_neg (by omega)]
theorem ck_mk {rows : List (List Int)} {C : List Cz} {K : Nat} (h1 : 0 < rows.length) (h8 : rows.length ≤ 8) (hK : 0 < K) (hK8 : K ≤ 8) (hr : ∀ r ∈ rows, r.length = K ∧ ∀ y ∈ r, 0 ≤ y ∧ y ≤ 1000000)
    (hC : ckCs C = 0) (hc : ∀ c ∈ C, c.c < rows.length ∧ c.l.length = K) : ckPk (mkPk rows C) = 0 := by
  have hs : (((mkPk rows C).v[0]?.getD (false, [])).2.length) = K := by
    simp only [mkPk, List.getElem?_map, List.getElem?_eq_getElem h1, Option.map_some, Option.getD_some]
    exact (hr _ (List.getElem_mem h1)).1
  have hl : (mkPk rows C).v.length = rows.length := by simp [mkPk]
  unfold ckPk
  rw [hs, hl, if_pos (szd_ok h1 h8)]
  refine fnz_zero.2 fun x hx => ?_
  simp only [List.mem_cons, List.not_mem_nil, or_false] at hx
  rcases hx with rfl | rfl | rfl | rfl
  · refine fnz_zero.2 fun x hx => ?_
    obtain ⟨r, hr', rfl⟩ := List.mem_map.1 hx
    obtain ⟨q, hq, rfl⟩ := List.mem_map.1 hr'
    obtain ⟨k1, k2⟩ := hr q hq
    unfold chE
    refine fnz_zero.2 fun x hx => ?_
    simp only [List.mem_cons, List.not_mem_nil, or_false] at hx
    rcases hx with rfl | rfl | rfl
    · exact szd_ok (by omega) (by omega)
    · have : ((q.length : Int) != K) = false := by simp; omega
      simp only [this]; rfl
    · refine fnz_zero.2 fun x hx => ?_
      obtain ⟨n, hn, rfl⟩ := List.mem_map.1 hx
      exact ckE_0 (k2 n hn)
  · exact ckE_0 (by simp [mkPk])
  · exact hC
  · refine fnz_zero.2 fun x hx => ?_
    obtain ⟨c, hc', rfl⟩ := List.mem_map.1 hx
    obtain ⟨k1, k2⟩ := hc c hc'
    unfold caE
    refine fnz_zero.2 fun x hx => ?_
    simp only [List.mem_cons, List.not_mem_nil, or_false] at hx
    rcases hx with rfl | rfl
    · have : decide ((rows.length : Int) ≤ c.c) = false := decide_eq_false (by omega)
      rw [this]; rfl
    · have : ((c.l.length : Int) != K) = false := by simp; omega
      rw [this]; rfl
theorem fit_mk {rows : List (List Int)} {C : List Cz} {K : Nat} (h8 : rows.length ≤ 8) (hK8 : K ≤ 8) (hr : ∀ r ∈ rows, r.length = K) (hC8 : C.length ≤ 8) (hc : ∀ c ∈ C, c.l.length = K ∧ c.n.length < 1000000) : (mkPk rows C).fit := by
  refine ⟨by simp [mkPk]; omega, fun r hr' => ?_, by simp [mkPk]; omega, fun c hc' => ?_⟩
  · obtain ⟨q, hq, rfl⟩ := List.mem_map.1 hr'
    have := hr q hq
    simp only; omega
  · have := hc c hc'
    omega
theorem med7 {b x y z : Int} (hx : x ≤ b) (hy : y ≤ b) (hz : z ≤ b) : med [b, x, b, y, b, z, b] = b := by
  rw [← med_eq (by simp)]
  have hall : ∀ w ∈ [b, x, b, y, b, z, b], w ≤ b := by
    intro w hw
    simp only [List.mem_cons, List.not_mem_nil, or_false] at hw
    omega
  have h := cnt_all hall
  have hlt : cntLt [b, x, b, y, b, z, b] b ≤ 3 := by
    simp only [cntLt_cons, Int.lt_irrefl, if_false]
    have h0 : cntLt [] b = 0 := rfl
    rw [h0]
    split <;> split <;> split <;> omega
  have h7 : [b, x, b, y, b, z, b].length = 7 := rfl
  rw [medR, if_pos ⟨by rw [h7]; exact hlt, by rw [h, h7]; decide⟩]
theorem meds_mk {q1 q2 q3 base : List Int} {C : List Cz} {K : Nat} (hb : base.length = K) (h1 : q1.length = K) (h2 : q2.length = K) (h3 : q3.length = K)
    (l1 : ∀ k, q1.getD k 0 ≤ base.getD k 0) (l2 : ∀ k, q2.getD k 0 ≤ base.getD k 0) (l3 : ∀ k, q3.getD k 0 ≤ base.getD k 0) : meds (mkPk [base, q1, base, q2, base, q3, base] C) = base := by
  have hs : slots (mkPk [base, q1, base, q2, base, q3, base] C) = K := by simp [slots, mkPk, hb]
  apply List.ext_getElem?
  intro k
  unfold meds
  rw [hs]
  by_cases hk : k < K
  · rw [List.getElem?_map, List.getElem?_range hk, Option.map_some]
    have hc : col (mkPk [base, q1, base, q2, base, q3, base] C) k = [base.getD k 0, q1.getD k 0, base.getD k 0, q2.getD k 0, base.getD k 0, q3.getD k 0, base.getD k 0] := rfl
    rw [hc, med7 (l1 k) (l2 k) (l3 k), List.getElem?_eq_getElem (by omega), List.getD_eq_getElem?_getD, List.getElem?_eq_getElem (by omega)]
    rfl
  · rw [List.getElem?_eq_none (by simp; omega), List.getElem?_eq_none (by omega)]
theorem rowP_nil {nz : Int} {i : Nat} : ∀ {r : List Int} {k : Nat} {l : List (Int × Int)}, (∀ j (h : j < r.length) (h' : j < l.length), bdB nz r[j] l[j] = false) → rowP nz i k r l = []
  | [], k, l, _ => by cases l <;> rfl
  | n :: r, k, [], _ => rfl
  | n :: r, k, x :: l, h => by
    have h0 := h 0 (by simp) (by simp)
    simp only [List.getElem_cons_zero] at h0
    rw [rowP, h0]
    exact rowP_nil fun j hj hj' => by
      have := h (j + 1) (by simpa using hj) (by simpa using hj')
      simpa using this
theorem rowP_ne {nz : Int} {i : Nat} : ∀ {r : List Int} {k : Nat} {l : List (Int × Int)} (j : Nat) (h : j < r.length) (h' : j < l.length), bdB nz r[j] l[j] = true → rowP nz i k r l ≠ []
  | [], k, l, j, h, _, _ => by cases h
  | n :: r, k, [], j, _, h', _ => by cases h'
  | n :: r, k, x :: l, 0, _, _, hb => by
    simp only [List.getElem_cons_zero] at hb
    rw [rowP, hb]
    simp
  | n :: r, k, x :: l, j + 1, h, h', hb => by
    simp only [List.getElem_cons_succ] at hb
    have ih := rowP_ne (nz := nz) (i := i) (r := r) (k := k + 1) (l := l) j (by simpa using h) (by simpa using h') hb
    rw [rowP]
    cases bdB nz n x
    · exact ih
    · simp
end Go.Den.FaT
namespace Go.Den.FaU
open Go Go.Proofs Go.Den Go.Den.FaT
theorem losS_len (A B : F8) : ∀ (m j : Nat), (losS A B j m).length = m
  | 0, j => rfl
  | m + 1, j => by rw [losS, List.length_cons, losS_len A B m (j + 1)]
theorem losS_get (A B : F8) : ∀ (m j k : Nat), k < m → (losS A B j m)[k]? = some (lo A (j + k), hi A B (j + k))
  | 0, j, k, h => by omega
  | m + 1, j, 0, h => rfl
  | m + 1, j, k + 1, h => by
    rw [losS, List.getElem?_cons_succ, losS_get A B m (j + 1) k (by omega), show j + 1 + k = j + (k + 1) by omega]
theorem losS_mem (A B : F8) : ∀ (m j : Nat) (x : Int × Int), x ∈ losS A B j m → 0 ≤ x.1 ∧ x.1 ≤ x.2 ∧ x.2 ≤ 1000000
  | 0, j, x, h => by cases h
  | m + 1, j, x, h => by
    rw [losS] at h
    rcases List.mem_cons.1 h with rfl | h
    · have := lo_b A j; have := wd_b B; unfold hi; simp only; omega
    · exact losS_mem A B m (j + 1) x h
theorem cutS_len (A B n : F8) : ∀ (l : List Int) (j : Nat), (cutS A B n j l).length = l.length
  | [], j => rfl
  | y :: t, j => by rw [cutS, List.length_cons, List.length_cons, cutS_len A B n t (j + 1)]
theorem cutS_get (A B n : F8) : ∀ (l : List Int) (j k : Nat), (cutS A B n j l)[k]? = (l[k]?).map fun y => y - los A B n (j + k)
  | [], j, k => by simp [cutS]
  | y :: t, j, 0 => rfl
  | y :: t, j, k + 1 => by
    rw [cutS, List.getElem?_cons_succ, List.getElem?_cons_succ, cutS_get A B n t (j + 1) k, show j + 1 + k = j + (k + 1) by omega]
theorem los_b (A B n : F8) (k : Nat) : 0 ≤ los A B n k ∧ los A B n k ≤ 200 ∧ lo A k ≤ los A B n k ∧ los A B n k ≤ hi A B k := by
  have := lo_b A k; have := wd_b B; have := rm_b B n; unfold los hi; omega
theorem cutS_le (A B n : F8) (l : List Int) (hl : ∀ y ∈ l, 1000 ≤ y) (k : Nat) : (cutS A B n 0 l).getD k 0 ≤ l.getD k 0 := by
  rw [List.getD_eq_getElem?_getD, List.getD_eq_getElem?_getD, cutS_get]
  cases h : l[k]? with
  | none => simp
  | some y =>
    have := los_b A B n (0 + k)
    simp only [Option.map_some, Option.getD_some]
    omega
theorem cutS_mem (A B n : F8) (l : List Int) (hl : ∀ y ∈ l, 1000 ≤ y ∧ y ≤ 100000) : ∀ y ∈ cutS A B n 0 l, 0 ≤ y ∧ y ≤ 1000000 := by
  intro y hy
  obtain ⟨k, hk, rfl⟩ := List.mem_iff_getElem.1 hy
  have h := cutS_get A B n l 0 k
  rw [List.getElem?_eq_getElem hk] at h
  cases hx : l[k]? with
  | none => rw [hx] at h; cases h
  | some z =>
    rw [hx] at h
    simp only [Option.map_some, Option.some.injEq] at h
    have h1 := hl z (List.mem_of_getElem? hx)
    have := los_b A B n (0 + k)
    omega
theorem rsd_get (m l : List Int) (k : Nat) (h : k < (rsd m l).length) (h1 : k < m.length) (h2 : k < l.length) : (rsd m l)[k] = IntKind.i64.wrap (m[k] - l[k]) := by simp [rsd]
theorem bd_0 : bdB 0 (IntKind.i64.wrap 0) (0, 0) = false := by decide
theorem row_base {p : Pk} {st : List Int} {base : List Int} {i : Nat} (hs : slots p = base.length) (hl : ∀ k, lsA p st i k = (0, 0)) : rowP 0 i 0 (rsd base base) (lsR p st i) = [] := by
  refine rowP_nil fun k h h' => ?_
  have hk : k < base.length := by rw [lsR_len] at h'; omega
  rw [rsd_get base base k h hk hk, Int.sub_self]
  have : (lsR p st i)[k] = (0, 0) := by simp [lsR, hl]
  rw [this]
  exact bd_0
theorem wrap_cut (A B n : F8) (k : Nat) (y : Int) (hy : 1000 ≤ y ∧ y ≤ 100000) : IntKind.i64.wrap (y - (y - los A B n k)) = los A B n k := by
  have := los_b A B n k
  rw [wrap64] <;> omega
theorem cut_at (A B n : F8) (base : List Int) (k : Nat) (hk : k < base.length) (h2 : k < (cutS A B n 0 base).length) : (cutS A B n 0 base)[k] = base[k] - los A B n k := by
  have h := cutS_get A B n base 0 k
  rw [List.getElem?_eq_getElem h2, List.getElem?_eq_getElem hk, Nat.zero_add] at h
  simpa using h
theorem row_cut {p : Pk} {st : List Int} {base : List Int} {i : Nat} {A B n : F8} (hs : slots p = base.length) (hb : ∀ y ∈ base, 1000 ≤ y ∧ y ≤ 100000) (hl : ∀ k, k < base.length → lsA p st i k = add2 (0, 0) (lo A k, hi A B k)) :
    rowP 0 i 0 (rsd base (cutS A B n 0 base)) (lsR p st i) = [] := by
  refine rowP_nil fun k h h' => ?_
  have hk : k < base.length := by rw [lsR_len] at h'; omega
  have h2 : k < (cutS A B n 0 base).length := by rw [cutS_len]; exact hk
  rw [rsd_get base _ k h hk h2, cut_at A B n base k hk h2, wrap_cut A B n k _ (hb _ (List.getElem_mem hk))]
  have e : (lsR p st i)[k] = add2 (0, 0) (lo A k, hi A B k) := by simp [lsR, hl k hk]
  rw [e]
  have := los_b A B n k
  have := lo_b A k
  have := wd_b B
  have w1 : IntKind.i64.wrap (0 + lo A k) = lo A k := by rw [wrap64] <;> omega
  have w2 : IntKind.i64.wrap (0 + hi A B k) = hi A B k := by unfold hi; rw [wrap64] <;> omega
  have w3 : IntKind.i64.wrap (lo A k - 0) = lo A k := by rw [wrap64] <;> omega
  have w4 : IntKind.i64.wrap (hi A B k + 0) = hi A B k := by unfold hi; rw [wrap64] <;> omega
  unfold bdB add2
  simp only [w1, w2, w3, w4]
  rw [decide_eq_false (by omega), decide_eq_false (by omega)]
  rfl
theorem offS_ex (A : F8) : ∀ (m j : Nat), offS A j m = true → ∃ k, k < m ∧ 0 < lo A (j + k)
  | 0, j, h => by cases h
  | m + 1, j, h => by
    rw [offS, Bool.or_eq_true] at h
    rcases h with h | h
    · exact ⟨0, by omega, by simpa using h⟩
    · obtain ⟨k, h1, h2⟩ := offS_ex A m (j + 1) h
      exact ⟨k + 1, by omega, by rw [show j + (k + 1) = j + 1 + k by omega]; exact h2⟩
theorem row_off {p : Pk} {st : List Int} {base : List Int} {i : Nat} {A B n : F8} (hs : slots p = base.length) (hb : ∀ y ∈ base, 1000 ≤ y ∧ y ≤ 100000) (hl : ∀ k, lsA p st i k = (0, 0)) (ho : offS A 0 base.length = true) :
    rowP 0 i 0 (rsd base (cutS A B n 0 base)) (lsR p st i) ≠ [] := by
  obtain ⟨k, hk, hp⟩ := offS_ex A _ _ ho
  rw [Nat.zero_add] at hp
  have h2 : k < (cutS A B n 0 base).length := by rw [cutS_len]; exact hk
  have h : k < (rsd base (cutS A B n 0 base)).length := by simp [rsd]; omega
  refine rowP_ne k h (by rw [lsR_len]; omega) ?_
  rw [rsd_get base _ k h hk h2, cut_at A B n base k hk h2, wrap_cut A B n k _ (hb _ (List.getElem_mem hk))]
  have e : (lsR p st i)[k]'(by rw [lsR_len]; omega) = (0, 0) := by simp [lsR, hl]
  rw [e]
  have := los_b A B n k
  have w : IntKind.i64.wrap (0 + 0) = 0 := by decide
  unfold bdB
  simp only [w]
  rw [decide_eq_true (show (0 : Int) < los A B n k by omega), Bool.or_true]
theorem unq_mk {q0 q1 q2 q3 q4 q5 q6 base : List Int} {C : List Cz} {st : List Int} (hm : meds (mkPk [q0, q1, q2, q3, q4, q5, q6] C) = base) :
    unq (mkPk [q0, q1, q2, q3, q4, q5, q6] C) st = rowP 0 0 0 (rsd base q0) (lsR (mkPk [q0, q1, q2, q3, q4, q5, q6] C) st 0) ++ (rowP 0 1 0 (rsd base q1) (lsR (mkPk [q0, q1, q2, q3, q4, q5, q6] C) st 1) ++ (rowP 0 2 0 (rsd base q2) (lsR (mkPk [q0, q1, q2, q3, q4, q5, q6] C) st 2) ++
      (rowP 0 3 0 (rsd base q3) (lsR (mkPk [q0, q1, q2, q3, q4, q5, q6] C) st 3) ++ (rowP 0 4 0 (rsd base q4) (lsR (mkPk [q0, q1, q2, q3, q4, q5, q6] C) st 4) ++ (rowP 0 5 0 (rsd base q5) (lsR (mkPk [q0, q1, q2, q3, q4, q5, q6] C) st 5) ++ (rowP 0 6 0 (rsd base q6) (lsR (mkPk [q0, q1, q2, q3, q4, q5, q6] C) st 6) ++ [])))))) := by
  unfold unq ress
  rw [hm]
  rfl
theorem endA (a : Ar) (r : List Int) : LO a r 7 = LBO0 a r r r r r r r false := by
  unfold LO LBO0
  conv => lhs; rw [loopEq]
  simp only [hA, rA, rng7, rep7, List.nil_append, List.append_nil, List.cons_append, List.map_cons, List.map_nil, Nat.reduceAdd, cast7]
  simp -implicitDefEqProofs only [go_sem, simprocAttr, nums]
theorem allA (a : Ar) (hx : a.xs.length ≤ 4) (h1 : 1 ≤ a.xs.length) : LO a (a.xs.map en) 0 = LBO0 a (a.xs.map en) (a.xs.map en) (a.xs.map en) (a.xs.map en) (a.xs.map en) (a.xs.map en) (a.xs.map en) false := by
  rw [roundO a hx h1 (j := 0) (by omega), roundO a hx h1 (j := 1) (by omega), roundO a hx h1 (j := 2) (by omega), roundO a hx h1 (j := 3) (by omega), roundO a hx h1 (j := 4) (by omega), roundO a hx h1 (j := 5) (by omega), roundO a hx h1 (j := 6) (by omega), endA]
theorem c11of (a : Ar) (hx : a.xs.length ≤ 4) (h1 : 1 ≤ a.xs.length) (hL : a.L.length ≤ 3) (h : LO a (a.xs.map en) 0 = some (.ret (.bool true), [], 0, [])) :
    (lim FaU.T).call 11 [.sl a.b 1 (a.xs.map exV), .sl a.b1 2 (a.L.map pxV), .int .u8 (a.n.val : Int)] [] 0 [] = some (.bool true, [], 0, []) := by
  rw [FaU.ent11]
  have g1 : decide ((a.xs.length : Int) < 1) = false := by simp; omega
  have g2 : decide (4 < (a.xs.length : Int)) = false := by simp; omega
  have g3 : decide (3 < (a.L.length : Int)) = false := by simp; omega
  unfold LO at h
  simp only [hA, cast7] at h
  simp -implicitDefEqProofs only [go_sem, simprocAttr, g1, g2, g3, h]
theorem c11aw (a : Ar) (h16 : den FaT.T 16 [] = some (.bool true)) (h : ¬ (1 ≤ a.xs.length ∧ a.xs.length ≤ 4 ∧ a.L.length ≤ 3)) :
    (lim FaU.T).call 11 [.sl a.b 1 (a.xs.map exV), .sl a.b1 2 (a.L.map pxV), .int .u8 (a.n.val : Int)] [] 0 [] = some (.bool true, [], 0, []) := by
  rw [FaU.ent11]
  cases g1 : decide ((a.xs.length : Int) < 1) <;> cases g2 : decide (4 < (a.xs.length : Int)) <;> cases g3 : decide (3 < (a.L.length : Int))
  · exfalso; simp at g1 g2 g3; omega
  all_goals simp -implicitDefEqProofs only [go_sem, simprocAttr, g1, g2, g3, h16]
theorem base_b (a : Ar) : ∀ y ∈ a.xs.map en, 1000 ≤ y ∧ y ≤ 100000 := by
  intro y hy
  obtain ⟨x, _, rfl⟩ := List.mem_map.1 hy
  have := x.isLt
  unfold en
  omega
theorem emp_f {α : Type} {f : α → V} {l : List α} (h : 1 ≤ l.length) : (l.map f).isEmpty = false := by
  cases l with
  | nil => cases h
  | cons x r => rfl
theorem mx_f {α : Type} {l : List α} (h : l.length ≤ 8) : decide (l.length < maxRow) = true := decide_eq_true (by unfold maxRow; omega)
theorem D89 (l : List Int) (h : l.length ≤ 8) : den FaT.T 89 [.sl true 1 (l.map intV), .sl true 1 (l.map intV)] = some (.bool true) := by
  have e := c89 true true l l (by omega)
  rw [show decide (l = l) = true by simp] at e
  exact den_of (by kernel_rfl) (by kernel_rfl) (fn := Tryz.f89) (by kernel_rfl) e
theorem D20 {p : Pk} (hf : p.fit) (h : ckPk p = 0) : den FaT.T 20 [pkV p] = some (.int .i64 0) := by
  have e := c20 p hf
  rw [h] at e
  exact den_of (by kernel_rfl) (by kernel_rfl) (fn := Tryz.f20) (by kernel_rfl) e
theorem D18 {p : Pk} (hf : p.fit) : den FaT.T 18 [pkV p] = some (.agg [.sl (!((p.v.map ownR).map rwV).isEmpty) 1 ((p.v.map ownR).map rwV), .int .i64 p.n, slV 3 ((p.c.map ownC).map czV)]) :=
  den_of (by kernel_rfl) (by kernel_rfl) (fn := Tryz.f18) (by kernel_rfl) (c18 p hf)
theorem D17 {p : Pk} (hf : p.fit) (h : ckPk p = 0) {m : List Int} (hm : meds p = m) (h1 : 1 ≤ m.length) : den FaT.T 17 [pkV p] = some (.tup [.sl true 1 (m.map intV), .int .i64 0]) := by
  have e := c17 p hf
  rw [if_pos h, hm, emp_f h1] at e
  exact den_of (by kernel_rfl) (by kernel_rfl) (fn := Tryz.f17) (by kernel_rfl) e
theorem D27 (b : Bool) (l : List Int) (hl : l.length < 1000000) : den FaT.T 27 [.sl b 1 (l.map intV)] = some (.sl true 1 (l.map intV)) := den_of (by kernel_rfl) (by kernel_rfl) (fn := Tryz.f27) (by kernel_rfl) (c27 b l hl)
theorem D29 {p : Pk} {st : List Int} (sb : Bool) (hf : p.fit) (h : ckPk p = 0) (hs : st.length < 1000000) (hst : ckSt p.c.length st = 0) : den FaT.T 29 [pkV p, .sl sb 1 (st.map intV)] = some (.tup [.bool (unq p st).isEmpty, .int .i64 0]) := by
  have e := c29 p sb st hf hs
  rw [if_pos (show stE p st = 0 by unfold stE; rw [h, hst]; rfl)] at e
  exact den_of (by kernel_rfl) (by kernel_rfl) (fn := Tryz.f29) (by kernel_rfl) e
theorem D19 {p : Pk} (hf : p.fit) (h : ckPk p = 0) {rs : List (List Int)} (hr : (ress p).map (·.2) = rs) (hn : ∀ r ∈ rs, 1 ≤ r.length) (h1 : 1 ≤ rs.length) : den FaT.T 19 [pkV p] = some (.tup [.sl true 1 (rs.map fun r => .sl true 1 (r.map intV)), .int .i64 0]) := by
  have e := c19 p hf
  have e2 : (ress p).map rwV = rs.map fun r => .sl true 1 (r.map intV) := by
    rw [← hr, List.map_map]
    refine List.map_congr_left fun x hx => ?_
    obtain ⟨q, _, rfl⟩ := List.mem_map.1 hx
    have := hn (rsR (meds p) q).2 (by rw [← hr]; exact List.mem_map.2 ⟨_, hx, rfl⟩)
    simp only [rsR] at this
    simp only [rwV, rsR, Function.comp]
    rw [emp_f this]
    rfl
  rw [if_pos h, e2, emp_f h1] at e
  exact den_of (by kernel_rfl) (by kernel_rfl) (fn := Tryz.f19) (by kernel_rfl) e
theorem ckC_0 {c : Cz} (h : 0 ≤ c.c ∧ c.c ≤ 7) (h1 : 1 ≤ c.l.length) (h8 : c.l.length ≤ 8) (hl : ∀ x ∈ c.l, 0 ≤ x.1 ∧ x.1 ≤ x.2 ∧ x.2 ≤ 1000000) : ckC c = 0 := by
  unfold ckC
  refine fnz_zero.2 fun x hx => ?_
  simp only [List.mem_cons, List.not_mem_nil, or_false] at hx
  rcases hx with rfl | rfl | rfl
  · rw [rng_eq, if_neg (by omega)]
  · exact szd_ok (by omega) h8
  · refine fnz_zero.2 fun x hx => ?_
    obtain ⟨y, hy, rfl⟩ := List.mem_map.1 hx
    have := hl y hy
    unfold ckL
    refine fnz_zero.2 fun z hz => ?_
    simp only [List.mem_cons, List.not_mem_nil, or_false] at hz
    rcases hz with rfl | rfl | rfl
    · exact ckE_0 (by omega)
    · exact ckE_0 (by omega)
    · rw [decide_eq_false (by omega)]; rfl
theorem csE_0 {l : List Cz} {i : Nat} {c : Cz} (h1 : nameB c.n = true) (h2 : dupN l i c = false) (h3 : ckC c = 0) : csE l i c = 0 := by
  unfold csE
  rw [h1, h2, h3]
  rfl
theorem los_ck (A B : F8) {k : Nat} (n : List UInt8) (c : Int) (h1 : 1 ≤ k) (h8 : k ≤ 4) (h : 0 ≤ c ∧ c ≤ 7) : ckC ⟨n, c, true, losS A B 0 k⟩ = 0 := by
  refine ckC_0 h (by simp only [losS_len]; omega) (by simp only [losS_len]; omega) fun x hx => losS_mem A B _ _ x hx
theorem made0 (a : Ar) (hx : a.xs.length ≤ 4) (h1 : 1 ≤ a.xs.length) (hL : a.L = []) (h16 : den FaT.T 16 [] = some (.bool true)) : LO a (a.xs.map en) 0 = some (.ret (.bool true), [], 0, []) := by
  have hbl : (a.xs.map en).length = a.xs.length := by simp
  have hb := base_b a
  have hb1 : ∀ y ∈ (a.xs.map en), 1000 ≤ y := fun y hy => (hb y hy).1
  have lb : ∀ k, (a.xs.map en).getD k 0 ≤ (a.xs.map en).getD k 0 := fun k => Int.le_refl _
  have rb : (a.xs.map en).length = a.xs.length ∧ ∀ y ∈ (a.xs.map en), 0 ≤ y ∧ y ≤ 1000000 := ⟨hbl, fun y hy => by have := hb y hy; omega⟩
  have hrow : ∀ r ∈ ([(a.xs.map en), (a.xs.map en), (a.xs.map en), (a.xs.map en), (a.xs.map en), (a.xs.map en), (a.xs.map en)] : List (List Int)), r.length = a.xs.length ∧ ∀ y ∈ r, 0 ≤ y ∧ y ≤ 1000000 := by
    intro r hr
    simp only [List.mem_cons, List.not_mem_nil, or_false] at hr
    rcases hr with rfl | rfl | rfl | rfl | rfl | rfl | rfl <;> first | exact rb
  have hcs : ckCs [] = 0 := by
    rfl
  have hcc : ∀ c ∈ ([] : List Cz), c.c < 7 ∧ c.l.length = a.xs.length := by
    intro c hc
    cases hc
  have hnl : ∀ c ∈ ([] : List Cz), c.l.length = a.xs.length ∧ c.n.length < 1000000 := by
    intro c hc
    refine ⟨(hcc c hc).2, ?_⟩
    cases hc
  have hP : ckPk (mkPk [(a.xs.map en), (a.xs.map en), (a.xs.map en), (a.xs.map en), (a.xs.map en), (a.xs.map en), (a.xs.map en)] []) = 0 := ck_mk (K := a.xs.length) (by simp) (by simp) h1 (by omega) hrow hcs hcc
  have hf : (mkPk [(a.xs.map en), (a.xs.map en), (a.xs.map en), (a.xs.map en), (a.xs.map en), (a.xs.map en), (a.xs.map en)] []).fit := fit_mk (K := a.xs.length) (by simp) (by omega) (fun r hr => (hrow r hr).1) (by simp) hnl
  have hm : meds (mkPk [(a.xs.map en), (a.xs.map en), (a.xs.map en), (a.xs.map en), (a.xs.map en), (a.xs.map en), (a.xs.map en)] []) = (a.xs.map en) := meds_mk (K := a.xs.length) hbl hbl hbl hbl lb lb lb
  have hs : slots (mkPk [(a.xs.map en), (a.xs.map en), (a.xs.map en), (a.xs.map en), (a.xs.map en), (a.xs.map en), (a.xs.map en)] []) = (a.xs.map en).length := rfl
  have hu : unq (mkPk [(a.xs.map en), (a.xs.map en), (a.xs.map en), (a.xs.map en), (a.xs.map en), (a.xs.map en), (a.xs.map en)] []) [] = [] := by
    rw [unq_mk hm]
    rw [row_base (i := 0) hs (fun k => rfl)]
    rw [row_base (i := 1) hs (fun k => rfl)]
    rw [row_base (i := 2) hs (fun k => rfl)]
    rw [row_base (i := 3) hs (fun k => rfl)]
    rw [row_base (i := 4) hs (fun k => rfl)]
    rw [row_base (i := 5) hs (fun k => rfl)]
    rw [row_base (i := 6) hs (fun k => rfl)]
    rfl
  have e20 := D20 hf hP
  have e18 := D18 hf
  have e17 := D17 hf hP hm (by omega)
  have e29 := D29 (st := []) true hf hP (by decide) rfl
  rw [hu] at e29
  have e19 := D19 hf hP (rs := [rsd (a.xs.map en) (a.xs.map en), rsd (a.xs.map en) (a.xs.map en), rsd (a.xs.map en) (a.xs.map en), rsd (a.xs.map en) (a.xs.map en), rsd (a.xs.map en) (a.xs.map en), rsd (a.xs.map en) (a.xs.map en), rsd (a.xs.map en) (a.xs.map en)]) (by unfold ress; rw [hm]; rfl) (fun r hr => by
    simp only [List.mem_cons, List.not_mem_nil, or_false] at hr
    rcases hr with rfl | rfl | rfl | rfl | rfl | rfl | rfl <;> (simp only [rsd, List.length_zipWith, cutS_len, hbl]; omega)) (by simp)
  have e29n := D29 (st := []) false hf hP (by decide) rfl
  have hoff : (false && (unq (mkPk [(a.xs.map en), (a.xs.map en), (a.xs.map en), (a.xs.map en), (a.xs.map en), (a.xs.map en), (a.xs.map en)] []) []).isEmpty) = false := by
    rfl
  have hrow2 : ∀ r ∈ ([(a.xs.map en), (a.xs.map en), (a.xs.map en), (a.xs.map en), (a.xs.map en), (a.xs.map en), (a.xs.map en)] : List (List Int)), r.length = a.xs.length ∧ ∀ y ∈ r, 0 ≤ y ∧ y ≤ 1000000 := by
    intro r hr
    simp only [List.mem_cons, List.not_mem_nil, or_false] at hr
    rcases hr with rfl | rfl | rfl | rfl | rfl | rfl | rfl <;> first | exact rb
  have hcs2 : ckCs [] = 0 := by
    rfl
  have hcc2 : ∀ c ∈ ([] : List Cz), c.c < 7 ∧ c.l.length = a.xs.length := by
    intro c hc
    cases hc
  have hnl2 : ∀ c ∈ ([] : List Cz), c.l.length = a.xs.length ∧ c.n.length < 1000000 := by
    intro c hc
    refine ⟨(hcc2 c hc).2, ?_⟩
    cases hc
  have hP2 : ckPk (mkPk [(a.xs.map en), (a.xs.map en), (a.xs.map en), (a.xs.map en), (a.xs.map en), (a.xs.map en), (a.xs.map en)] []) = 0 := ck_mk (K := a.xs.length) (by simp) (by simp) h1 (by omega) hrow2 hcs2 hcc2
  have hf2 : (mkPk [(a.xs.map en), (a.xs.map en), (a.xs.map en), (a.xs.map en), (a.xs.map en), (a.xs.map en), (a.xs.map en)] []).fit := fit_mk (K := a.xs.length) (by simp) (by omega) (fun r hr => (hrow2 r hr).1) (by simp) hnl2
  have hm2 : meds (mkPk [(a.xs.map en), (a.xs.map en), (a.xs.map en), (a.xs.map en), (a.xs.map en), (a.xs.map en), (a.xs.map en)] []) = (a.xs.map en) := meds_mk (K := a.xs.length) hbl hbl hbl hbl lb lb lb
  have hs2 : slots (mkPk [(a.xs.map en), (a.xs.map en), (a.xs.map en), (a.xs.map en), (a.xs.map en), (a.xs.map en), (a.xs.map en)] []) = (a.xs.map en).length := rfl
  have hu2 : unq (mkPk [(a.xs.map en), (a.xs.map en), (a.xs.map en), (a.xs.map en), (a.xs.map en), (a.xs.map en), (a.xs.map en)] []) [] = [] := by
    rw [unq_mk hm2]
    rw [row_base (i := 0) hs2 (fun k => rfl)]
    rw [row_base (i := 1) hs2 (fun k => rfl)]
    rw [row_base (i := 2) hs2 (fun k => rfl)]
    rw [row_base (i := 3) hs2 (fun k => rfl)]
    rw [row_base (i := 4) hs2 (fun k => rfl)]
    rw [row_base (i := 5) hs2 (fun k => rfl)]
    rw [row_base (i := 6) hs2 (fun k => rfl)]
    rfl
  have e202 := D20 hf2 hP2
  have e182 := D18 hf2
  have e172 := D17 hf2 hP2 hm2 (by omega)
  have e292 := D29 (st := []) true hf2 hP2 (by decide) rfl
  rw [hu2] at e292
  have e192 := D19 hf2 hP2 (rs := [rsd (a.xs.map en) (a.xs.map en), rsd (a.xs.map en) (a.xs.map en), rsd (a.xs.map en) (a.xs.map en), rsd (a.xs.map en) (a.xs.map en), rsd (a.xs.map en) (a.xs.map en), rsd (a.xs.map en) (a.xs.map en), rsd (a.xs.map en) (a.xs.map en)]) (by unfold ress; rw [hm2]; rfl) (fun r hr => by
    simp only [List.mem_cons, List.not_mem_nil, or_false] at hr
    rcases hr with rfl | rfl | rfl | rfl | rfl | rfl | rfl <;> (simp only [rsd, List.length_zipWith, cutS_len, hbl]; omega)) (by simp)
  have e27 := D27 false [] (by decide)
  rw [allA a hx h1]
  rw [tC0 a (a.xs.map en) (a.xs.map en) (a.xs.map en) (a.xs.map en) (a.xs.map en) (a.xs.map en) (a.xs.map en) (rsd (a.xs.map en) (a.xs.map en)) (rsd (a.xs.map en) (a.xs.map en)) (rsd (a.xs.map en) (a.xs.map en)) (rsd (a.xs.map en) (a.xs.map en)) (rsd (a.xs.map en) (a.xs.map en)) (rsd (a.xs.map en) (a.xs.map en)) (rsd (a.xs.map en) (a.xs.map en))  false _ (by rw [hL]; rfl) e20 e18 e17 e27 e29 e29n e19 hoff]
  rw [loopD0 a (a.xs.map en) (a.xs.map en) (a.xs.map en) (a.xs.map en) (a.xs.map en) (a.xs.map en) (a.xs.map en) (rsd (a.xs.map en) (a.xs.map en)) (rsd (a.xs.map en) (a.xs.map en)) (rsd (a.xs.map en) (a.xs.map en)) (rsd (a.xs.map en) (a.xs.map en)) (rsd (a.xs.map en) (a.xs.map en)) (rsd (a.xs.map en) (a.xs.map en)) (rsd (a.xs.map en) (a.xs.map en))  hx 0 (by omega)]
  exact tE0 a (a.xs.map en) (a.xs.map en) (a.xs.map en) (a.xs.map en) (a.xs.map en) (a.xs.map en) (a.xs.map en) (rsd (a.xs.map en) (a.xs.map en)) (rsd (a.xs.map en) (a.xs.map en)) (rsd (a.xs.map en) (a.xs.map en)) (rsd (a.xs.map en) (a.xs.map en)) (rsd (a.xs.map en) (a.xs.map en)) (rsd (a.xs.map en) (a.xs.map en)) (rsd (a.xs.map en) (a.xs.map en))  (emp_f (by omega)) (mx_f (by omega)) (emp_f (by omega)) (mx_f (by omega)) (emp_f (by omega)) (mx_f (by omega)) (emp_f (by omega)) (mx_f (by omega)) (emp_f (by omega)) (mx_f (by omega)) (emp_f (by omega)) (mx_f (by omega)) (emp_f (by omega)) (mx_f (by omega))  e182 e172 e27 e292 e192 D89 hx (fun r hr => by
    simp only [List.mem_cons, List.not_mem_nil, or_false] at hr
    rcases hr with rfl | rfl | rfl | rfl | rfl | rfl | rfl <;> (simp only [rsd, List.length_zipWith, cutS_len, hbl]; omega)) h16
theorem made1 (a : Ar) (hx : a.xs.length ≤ 4) (h1 : 1 ≤ a.xs.length) (A0 B0 : F8) (hL : a.L = [(A0, B0)]) (h16 : den FaT.T 16 [] = some (.bool true)) : LO a (a.xs.map en) 0 = some (.ret (.bool true), [], 0, []) := by
  have hbl : (a.xs.map en).length = a.xs.length := by simp
  have hb := base_b a
  have hb1 : ∀ y ∈ (a.xs.map en), 1000 ≤ y := fun y hy => (hb y hy).1
  have lb : ∀ k, (a.xs.map en).getD k 0 ≤ (a.xs.map en).getD k 0 := fun k => Int.le_refl _
  have rb : (a.xs.map en).length = a.xs.length ∧ ∀ y ∈ (a.xs.map en), 0 ≤ y ∧ y ≤ 1000000 := ⟨hbl, fun y hy => by have := hb y hy; omega⟩
  have rc0 : (cutS A0 B0 a.n 0 (a.xs.map en)).length = a.xs.length ∧ ∀ y ∈ cutS A0 B0 a.n 0 (a.xs.map en), 0 ≤ y ∧ y ≤ 1000000 := ⟨by rw [cutS_len, hbl], cutS_mem A0 B0 a.n _ hb⟩
  have hrow : ∀ r ∈ ([(a.xs.map en), (cutS A0 B0 a.n 0 (a.xs.map en)), (a.xs.map en), (a.xs.map en), (a.xs.map en), (a.xs.map en), (a.xs.map en)] : List (List Int)), r.length = a.xs.length ∧ ∀ y ∈ r, 0 ≤ y ∧ y ≤ 1000000 := by
    intro r hr
    simp only [List.mem_cons, List.not_mem_nil, or_false] at hr
    rcases hr with rfl | rfl | rfl | rfl | rfl | rfl | rfl <;> first | exact rb | exact rc0
  have hcs : ckCs [⟨[99, 48], 1, true, losS A0 B0 0 a.xs.length⟩] = 0 := by
    unfold ckCs
    rw [if_neg (by simp)]
    refine fnz_zero.2 fun x hx => ?_
    simp only [csEs, List.mem_cons, List.not_mem_nil, or_false] at hx
    rcases hx with rfl
    · exact csE_0 (show nameB [99, 48] = true by decide) (by rfl) (los_ck A0 B0 _ _ h1 hx (by decide))
  have hcc : ∀ c ∈ ([⟨[99, 48], 1, true, losS A0 B0 0 a.xs.length⟩] : List Cz), c.c < 7 ∧ c.l.length = a.xs.length := by
    intro c hc
    simp only [List.mem_cons, List.not_mem_nil, or_false] at hc
    rcases hc with rfl <;> exact ⟨by simp, losS_len _ _ _ _⟩
  have hnl : ∀ c ∈ ([⟨[99, 48], 1, true, losS A0 B0 0 a.xs.length⟩] : List Cz), c.l.length = a.xs.length ∧ c.n.length < 1000000 := by
    intro c hc
    refine ⟨(hcc c hc).2, ?_⟩
    simp only [List.mem_cons, List.not_mem_nil, or_false] at hc
    rcases hc with rfl <;> exact Nat.lt_of_lt_of_le (show 2 < 1000 by decide) (by decide)
  have hP : ckPk (mkPk [(a.xs.map en), (cutS A0 B0 a.n 0 (a.xs.map en)), (a.xs.map en), (a.xs.map en), (a.xs.map en), (a.xs.map en), (a.xs.map en)] [⟨[99, 48], 1, true, losS A0 B0 0 a.xs.length⟩]) = 0 := ck_mk (K := a.xs.length) (by simp) (by simp) h1 (by omega) hrow hcs hcc
  have hf : (mkPk [(a.xs.map en), (cutS A0 B0 a.n 0 (a.xs.map en)), (a.xs.map en), (a.xs.map en), (a.xs.map en), (a.xs.map en), (a.xs.map en)] [⟨[99, 48], 1, true, losS A0 B0 0 a.xs.length⟩]).fit := fit_mk (K := a.xs.length) (by simp) (by omega) (fun r hr => (hrow r hr).1) (by simp) hnl
  have hm : meds (mkPk [(a.xs.map en), (cutS A0 B0 a.n 0 (a.xs.map en)), (a.xs.map en), (a.xs.map en), (a.xs.map en), (a.xs.map en), (a.xs.map en)] [⟨[99, 48], 1, true, losS A0 B0 0 a.xs.length⟩]) = (a.xs.map en) := meds_mk (K := a.xs.length) hbl (by rw [cutS_len, hbl]) hbl hbl (cutS_le _ _ _ _ hb1) lb lb
  have hs : slots (mkPk [(a.xs.map en), (cutS A0 B0 a.n 0 (a.xs.map en)), (a.xs.map en), (a.xs.map en), (a.xs.map en), (a.xs.map en), (a.xs.map en)] [⟨[99, 48], 1, true, losS A0 B0 0 a.xs.length⟩]) = (a.xs.map en).length := rfl
  have hu : unq (mkPk [(a.xs.map en), (cutS A0 B0 a.n 0 (a.xs.map en)), (a.xs.map en), (a.xs.map en), (a.xs.map en), (a.xs.map en), (a.xs.map en)] [⟨[99, 48], 1, true, losS A0 B0 0 a.xs.length⟩]) [0] = [] := by
    rw [unq_mk hm]
    rw [row_base (i := 0) hs (fun k => rfl)]
    have t1 : ∀ k, k < (a.xs.map en).length → lsA (mkPk [(a.xs.map en), (cutS A0 B0 a.n 0 (a.xs.map en)), (a.xs.map en), (a.xs.map en), (a.xs.map en), (a.xs.map en), (a.xs.map en)] [⟨[99, 48], 1, true, losS A0 B0 0 a.xs.length⟩]) [0] 1 k = add2 (0, 0) (lo A0 k, hi A0 B0 k) := fun k hk => by
      show add2 (0, 0) ((losS A0 B0 0 a.xs.length).getD k (0, 0)) = _
      rw [List.getD_eq_getElem?_getD, losS_get _ _ _ _ _ (by omega), Nat.zero_add]
      rfl
    rw [row_cut (i := 1) hs hb t1]
    rw [row_base (i := 2) hs (fun k => rfl)]
    rw [row_base (i := 3) hs (fun k => rfl)]
    rw [row_base (i := 4) hs (fun k => rfl)]
    rw [row_base (i := 5) hs (fun k => rfl)]
    rw [row_base (i := 6) hs (fun k => rfl)]
    rfl
  have e20 := D20 hf hP
  have e18 := D18 hf
  have e17 := D17 hf hP hm (by omega)
  have e29 := D29 (st := [0]) true hf hP (by decide) rfl
  rw [hu] at e29
  have e19 := D19 hf hP (rs := [rsd (a.xs.map en) (a.xs.map en), rsd (a.xs.map en) (cutS A0 B0 a.n 0 (a.xs.map en)), rsd (a.xs.map en) (a.xs.map en), rsd (a.xs.map en) (a.xs.map en), rsd (a.xs.map en) (a.xs.map en), rsd (a.xs.map en) (a.xs.map en), rsd (a.xs.map en) (a.xs.map en)]) (by unfold ress; rw [hm]; rfl) (fun r hr => by
    simp only [List.mem_cons, List.not_mem_nil, or_false] at hr
    rcases hr with rfl | rfl | rfl | rfl | rfl | rfl | rfl <;> (simp only [rsd, List.length_zipWith, cutS_len, hbl]; omega)) (by simp)
  have e29n := D29 (st := []) false hf hP (by decide) rfl
  have hoff : ((false || offS A0 0 a.xs.length) && (unq (mkPk [(a.xs.map en), (cutS A0 B0 a.n 0 (a.xs.map en)), (a.xs.map en), (a.xs.map en), (a.xs.map en), (a.xs.map en), (a.xs.map en)] [⟨[99, 48], 1, true, losS A0 B0 0 a.xs.length⟩]) []).isEmpty) = false := by
    cases hn : (unq (mkPk [(a.xs.map en), (cutS A0 B0 a.n 0 (a.xs.map en)), (a.xs.map en), (a.xs.map en), (a.xs.map en), (a.xs.map en), (a.xs.map en)] [⟨[99, 48], 1, true, losS A0 B0 0 a.xs.length⟩]) []).isEmpty
    · exact Bool.and_false _
    · have he : unq (mkPk [(a.xs.map en), (cutS A0 B0 a.n 0 (a.xs.map en)), (a.xs.map en), (a.xs.map en), (a.xs.map en), (a.xs.map en), (a.xs.map en)] [⟨[99, 48], 1, true, losS A0 B0 0 a.xs.length⟩]) [] = [] := by simpa using hn
      rw [unq_mk hm] at he
      simp only [List.append_eq_nil_iff] at he
      obtain ⟨_, z1, _, z3, _, z5, _⟩ := he
      have o0 : offS A0 0 a.xs.length = false := by
        cases hj : offS A0 0 a.xs.length with
        | false => rfl
        | true => exact absurd z1 (row_off hs hb (fun k => rfl) (by rw [hbl]; exact hj))
      rw [o0]
      rfl
  have hrow2 : ∀ r ∈ ([(a.xs.map en), (a.xs.map en), (a.xs.map en), (a.xs.map en), (a.xs.map en), (cutS A0 B0 a.n 0 (a.xs.map en)), (a.xs.map en)] : List (List Int)), r.length = a.xs.length ∧ ∀ y ∈ r, 0 ≤ y ∧ y ≤ 1000000 := by
    intro r hr
    simp only [List.mem_cons, List.not_mem_nil, or_false] at hr
    rcases hr with rfl | rfl | rfl | rfl | rfl | rfl | rfl <;> first | exact rb | exact rc0
  have hcs2 : ckCs [⟨[99, 48], 5, true, losS A0 B0 0 a.xs.length⟩] = 0 := by
    unfold ckCs
    rw [if_neg (by simp)]
    refine fnz_zero.2 fun x hx => ?_
    simp only [csEs, List.mem_cons, List.not_mem_nil, or_false] at hx
    rcases hx with rfl
    · exact csE_0 (show nameB [99, 48] = true by decide) (by rfl) (los_ck A0 B0 _ _ h1 hx (by decide))
  have hcc2 : ∀ c ∈ ([⟨[99, 48], 5, true, losS A0 B0 0 a.xs.length⟩] : List Cz), c.c < 7 ∧ c.l.length = a.xs.length := by
    intro c hc
    simp only [List.mem_cons, List.not_mem_nil, or_false] at hc
    rcases hc with rfl <;> exact ⟨by simp, losS_len _ _ _ _⟩
  have hnl2 : ∀ c ∈ ([⟨[99, 48], 5, true, losS A0 B0 0 a.xs.length⟩] : List Cz), c.l.length = a.xs.length ∧ c.n.length < 1000000 := by
    intro c hc
    refine ⟨(hcc2 c hc).2, ?_⟩
    simp only [List.mem_cons, List.not_mem_nil, or_false] at hc
    rcases hc with rfl <;> exact Nat.lt_of_lt_of_le (show 2 < 1000 by decide) (by decide)
  have hP2 : ckPk (mkPk [(a.xs.map en), (a.xs.map en), (a.xs.map en), (a.xs.map en), (a.xs.map en), (cutS A0 B0 a.n 0 (a.xs.map en)), (a.xs.map en)] [⟨[99, 48], 5, true, losS A0 B0 0 a.xs.length⟩]) = 0 := ck_mk (K := a.xs.length) (by simp) (by simp) h1 (by omega) hrow2 hcs2 hcc2
  have hf2 : (mkPk [(a.xs.map en), (a.xs.map en), (a.xs.map en), (a.xs.map en), (a.xs.map en), (cutS A0 B0 a.n 0 (a.xs.map en)), (a.xs.map en)] [⟨[99, 48], 5, true, losS A0 B0 0 a.xs.length⟩]).fit := fit_mk (K := a.xs.length) (by simp) (by omega) (fun r hr => (hrow2 r hr).1) (by simp) hnl2
  have hm2 : meds (mkPk [(a.xs.map en), (a.xs.map en), (a.xs.map en), (a.xs.map en), (a.xs.map en), (cutS A0 B0 a.n 0 (a.xs.map en)), (a.xs.map en)] [⟨[99, 48], 5, true, losS A0 B0 0 a.xs.length⟩]) = (a.xs.map en) := meds_mk (K := a.xs.length) hbl hbl hbl (by rw [cutS_len, hbl]) lb lb (cutS_le _ _ _ _ hb1)
  have hs2 : slots (mkPk [(a.xs.map en), (a.xs.map en), (a.xs.map en), (a.xs.map en), (a.xs.map en), (cutS A0 B0 a.n 0 (a.xs.map en)), (a.xs.map en)] [⟨[99, 48], 5, true, losS A0 B0 0 a.xs.length⟩]) = (a.xs.map en).length := rfl
  have hu2 : unq (mkPk [(a.xs.map en), (a.xs.map en), (a.xs.map en), (a.xs.map en), (a.xs.map en), (cutS A0 B0 a.n 0 (a.xs.map en)), (a.xs.map en)] [⟨[99, 48], 5, true, losS A0 B0 0 a.xs.length⟩]) [0] = [] := by
    rw [unq_mk hm2]
    rw [row_base (i := 0) hs2 (fun k => rfl)]
    rw [row_base (i := 1) hs2 (fun k => rfl)]
    rw [row_base (i := 2) hs2 (fun k => rfl)]
    rw [row_base (i := 3) hs2 (fun k => rfl)]
    rw [row_base (i := 4) hs2 (fun k => rfl)]
    have t5 : ∀ k, k < (a.xs.map en).length → lsA (mkPk [(a.xs.map en), (a.xs.map en), (a.xs.map en), (a.xs.map en), (a.xs.map en), (cutS A0 B0 a.n 0 (a.xs.map en)), (a.xs.map en)] [⟨[99, 48], 5, true, losS A0 B0 0 a.xs.length⟩]) [0] 5 k = add2 (0, 0) (lo A0 k, hi A0 B0 k) := fun k hk => by
      show add2 (0, 0) ((losS A0 B0 0 a.xs.length).getD k (0, 0)) = _
      rw [List.getD_eq_getElem?_getD, losS_get _ _ _ _ _ (by omega), Nat.zero_add]
      rfl
    rw [row_cut (i := 5) hs2 hb t5]
    rw [row_base (i := 6) hs2 (fun k => rfl)]
    rfl
  have e202 := D20 hf2 hP2
  have e182 := D18 hf2
  have e172 := D17 hf2 hP2 hm2 (by omega)
  have e292 := D29 (st := [0]) true hf2 hP2 (by decide) rfl
  rw [hu2] at e292
  have e192 := D19 hf2 hP2 (rs := [rsd (a.xs.map en) (a.xs.map en), rsd (a.xs.map en) (a.xs.map en), rsd (a.xs.map en) (a.xs.map en), rsd (a.xs.map en) (a.xs.map en), rsd (a.xs.map en) (a.xs.map en), rsd (a.xs.map en) (cutS A0 B0 a.n 0 (a.xs.map en)), rsd (a.xs.map en) (a.xs.map en)]) (by unfold ress; rw [hm2]; rfl) (fun r hr => by
    simp only [List.mem_cons, List.not_mem_nil, or_false] at hr
    rcases hr with rfl | rfl | rfl | rfl | rfl | rfl | rfl <;> (simp only [rsd, List.length_zipWith, cutS_len, hbl]; omega)) (by simp)
  have e27 := D27 true [0] (by decide)
  rw [allA a hx h1]
  rw [roundB0 a A0 B0 (a.xs.map en) (a.xs.map en) (a.xs.map en) (a.xs.map en) (a.xs.map en) (a.xs.map en) (a.xs.map en)  false hx h1 (by rw [hL]; simp) (by rw [hL]; rfl) hbl (fun j h _ => by have := hb _ (List.getElem_mem h); omega)]
  rw [tC1 a (a.xs.map en) (cutS A0 B0 a.n 0 (a.xs.map en)) (a.xs.map en) (a.xs.map en) (a.xs.map en) (a.xs.map en) (a.xs.map en) (rsd (a.xs.map en) (a.xs.map en)) (rsd (a.xs.map en) (cutS A0 B0 a.n 0 (a.xs.map en))) (rsd (a.xs.map en) (a.xs.map en)) (rsd (a.xs.map en) (a.xs.map en)) (rsd (a.xs.map en) (a.xs.map en)) (rsd (a.xs.map en) (a.xs.map en)) (rsd (a.xs.map en) (a.xs.map en)) (losS A0 B0 0 a.xs.length) (false || offS A0 0 a.xs.length) _ (by rw [hL]; rfl) e20 e18 e17 e27 e29 e29n e19 hoff]
  rw [loopD1 a (a.xs.map en) (cutS A0 B0 a.n 0 (a.xs.map en)) (a.xs.map en) (a.xs.map en) (a.xs.map en) (a.xs.map en) (a.xs.map en) (rsd (a.xs.map en) (a.xs.map en)) (rsd (a.xs.map en) (cutS A0 B0 a.n 0 (a.xs.map en))) (rsd (a.xs.map en) (a.xs.map en)) (rsd (a.xs.map en) (a.xs.map en)) (rsd (a.xs.map en) (a.xs.map en)) (rsd (a.xs.map en) (a.xs.map en)) (rsd (a.xs.map en) (a.xs.map en)) (losS A0 B0 0 a.xs.length) hx 0 (by omega)]
  exact tE1 a (a.xs.map en) (cutS A0 B0 a.n 0 (a.xs.map en)) (a.xs.map en) (a.xs.map en) (a.xs.map en) (a.xs.map en) (a.xs.map en) (rsd (a.xs.map en) (a.xs.map en)) (rsd (a.xs.map en) (cutS A0 B0 a.n 0 (a.xs.map en))) (rsd (a.xs.map en) (a.xs.map en)) (rsd (a.xs.map en) (a.xs.map en)) (rsd (a.xs.map en) (a.xs.map en)) (rsd (a.xs.map en) (a.xs.map en)) (rsd (a.xs.map en) (a.xs.map en)) (losS A0 B0 0 a.xs.length) (emp_f (by omega)) (mx_f (by omega)) (emp_f (by rw [cutS_len]; omega)) (mx_f (by rw [cutS_len]; omega)) (emp_f (by omega)) (mx_f (by omega)) (emp_f (by omega)) (mx_f (by omega)) (emp_f (by omega)) (mx_f (by omega)) (emp_f (by omega)) (mx_f (by omega)) (emp_f (by omega)) (mx_f (by omega)) (emp_f (by rw [losS_len]; omega)) (mx_f (by rw [losS_len]; omega)) e182 e172 e27 e292 e192 D89 hx (fun r hr => by
    simp only [List.mem_cons, List.not_mem_nil, or_false] at hr
    rcases hr with rfl | rfl | rfl | rfl | rfl | rfl | rfl <;> (simp only [rsd, List.length_zipWith, cutS_len, hbl]; omega)) h16
theorem made2 (a : Ar) (hx : a.xs.length ≤ 4) (h1 : 1 ≤ a.xs.length) (A0 B0 : F8) (A1 B1 : F8) (hL : a.L = [(A0, B0), (A1, B1)]) (h16 : den FaT.T 16 [] = some (.bool true)) : LO a (a.xs.map en) 0 = some (.ret (.bool true), [], 0, []) := by
  have hbl : (a.xs.map en).length = a.xs.length := by simp
  have hb := base_b a
  have hb1 : ∀ y ∈ (a.xs.map en), 1000 ≤ y := fun y hy => (hb y hy).1
  have lb : ∀ k, (a.xs.map en).getD k 0 ≤ (a.xs.map en).getD k 0 := fun k => Int.le_refl _
  have rb : (a.xs.map en).length = a.xs.length ∧ ∀ y ∈ (a.xs.map en), 0 ≤ y ∧ y ≤ 1000000 := ⟨hbl, fun y hy => by have := hb y hy; omega⟩
  have rc0 : (cutS A0 B0 a.n 0 (a.xs.map en)).length = a.xs.length ∧ ∀ y ∈ cutS A0 B0 a.n 0 (a.xs.map en), 0 ≤ y ∧ y ≤ 1000000 := ⟨by rw [cutS_len, hbl], cutS_mem A0 B0 a.n _ hb⟩
  have rc1 : (cutS A1 B1 a.n 0 (a.xs.map en)).length = a.xs.length ∧ ∀ y ∈ cutS A1 B1 a.n 0 (a.xs.map en), 0 ≤ y ∧ y ≤ 1000000 := ⟨by rw [cutS_len, hbl], cutS_mem A1 B1 a.n _ hb⟩
  have hrow : ∀ r ∈ ([(a.xs.map en), (cutS A0 B0 a.n 0 (a.xs.map en)), (a.xs.map en), (cutS A1 B1 a.n 0 (a.xs.map en)), (a.xs.map en), (a.xs.map en), (a.xs.map en)] : List (List Int)), r.length = a.xs.length ∧ ∀ y ∈ r, 0 ≤ y ∧ y ≤ 1000000 := by
    intro r hr
    simp only [List.mem_cons, List.not_mem_nil, or_false] at hr
    rcases hr with rfl | rfl | rfl | rfl | rfl | rfl | rfl <;> first | exact rb | exact rc0 | exact rc1
  have hcs : ckCs [⟨[99, 48], 1, true, losS A0 B0 0 a.xs.length⟩, ⟨[99, 49], 3, true, losS A1 B1 0 a.xs.length⟩] = 0 := by
    unfold ckCs
    rw [if_neg (by simp)]
    refine fnz_zero.2 fun x hx => ?_
    simp only [csEs, List.mem_cons, List.not_mem_nil, or_false] at hx
    rcases hx with rfl | rfl
    · exact csE_0 (show nameB [99, 48] = true by decide) (by rfl) (los_ck A0 B0 _ _ h1 hx (by decide))
    · exact csE_0 (show nameB [99, 49] = true by decide) (by rfl) (los_ck A1 B1 _ _ h1 hx (by decide))
  have hcc : ∀ c ∈ ([⟨[99, 48], 1, true, losS A0 B0 0 a.xs.length⟩, ⟨[99, 49], 3, true, losS A1 B1 0 a.xs.length⟩] : List Cz), c.c < 7 ∧ c.l.length = a.xs.length := by
    intro c hc
    simp only [List.mem_cons, List.not_mem_nil, or_false] at hc
    rcases hc with rfl | rfl <;> exact ⟨by simp, losS_len _ _ _ _⟩
  have hnl : ∀ c ∈ ([⟨[99, 48], 1, true, losS A0 B0 0 a.xs.length⟩, ⟨[99, 49], 3, true, losS A1 B1 0 a.xs.length⟩] : List Cz), c.l.length = a.xs.length ∧ c.n.length < 1000000 := by
    intro c hc
    refine ⟨(hcc c hc).2, ?_⟩
    simp only [List.mem_cons, List.not_mem_nil, or_false] at hc
    rcases hc with rfl | rfl <;> exact Nat.lt_of_lt_of_le (show 2 < 1000 by decide) (by decide)
  have hP : ckPk (mkPk [(a.xs.map en), (cutS A0 B0 a.n 0 (a.xs.map en)), (a.xs.map en), (cutS A1 B1 a.n 0 (a.xs.map en)), (a.xs.map en), (a.xs.map en), (a.xs.map en)] [⟨[99, 48], 1, true, losS A0 B0 0 a.xs.length⟩, ⟨[99, 49], 3, true, losS A1 B1 0 a.xs.length⟩]) = 0 := ck_mk (K := a.xs.length) (by simp) (by simp) h1 (by omega) hrow hcs hcc
  have hf : (mkPk [(a.xs.map en), (cutS A0 B0 a.n 0 (a.xs.map en)), (a.xs.map en), (cutS A1 B1 a.n 0 (a.xs.map en)), (a.xs.map en), (a.xs.map en), (a.xs.map en)] [⟨[99, 48], 1, true, losS A0 B0 0 a.xs.length⟩, ⟨[99, 49], 3, true, losS A1 B1 0 a.xs.length⟩]).fit := fit_mk (K := a.xs.length) (by simp) (by omega) (fun r hr => (hrow r hr).1) (by simp) hnl
  have hm : meds (mkPk [(a.xs.map en), (cutS A0 B0 a.n 0 (a.xs.map en)), (a.xs.map en), (cutS A1 B1 a.n 0 (a.xs.map en)), (a.xs.map en), (a.xs.map en), (a.xs.map en)] [⟨[99, 48], 1, true, losS A0 B0 0 a.xs.length⟩, ⟨[99, 49], 3, true, losS A1 B1 0 a.xs.length⟩]) = (a.xs.map en) := meds_mk (K := a.xs.length) hbl (by rw [cutS_len, hbl]) (by rw [cutS_len, hbl]) hbl (cutS_le _ _ _ _ hb1) (cutS_le _ _ _ _ hb1) lb
  have hs : slots (mkPk [(a.xs.map en), (cutS A0 B0 a.n 0 (a.xs.map en)), (a.xs.map en), (cutS A1 B1 a.n 0 (a.xs.map en)), (a.xs.map en), (a.xs.map en), (a.xs.map en)] [⟨[99, 48], 1, true, losS A0 B0 0 a.xs.length⟩, ⟨[99, 49], 3, true, losS A1 B1 0 a.xs.length⟩]) = (a.xs.map en).length := rfl
  have hu : unq (mkPk [(a.xs.map en), (cutS A0 B0 a.n 0 (a.xs.map en)), (a.xs.map en), (cutS A1 B1 a.n 0 (a.xs.map en)), (a.xs.map en), (a.xs.map en), (a.xs.map en)] [⟨[99, 48], 1, true, losS A0 B0 0 a.xs.length⟩, ⟨[99, 49], 3, true, losS A1 B1 0 a.xs.length⟩]) [0, 1] = [] := by
    rw [unq_mk hm]
    rw [row_base (i := 0) hs (fun k => rfl)]
    have t1 : ∀ k, k < (a.xs.map en).length → lsA (mkPk [(a.xs.map en), (cutS A0 B0 a.n 0 (a.xs.map en)), (a.xs.map en), (cutS A1 B1 a.n 0 (a.xs.map en)), (a.xs.map en), (a.xs.map en), (a.xs.map en)] [⟨[99, 48], 1, true, losS A0 B0 0 a.xs.length⟩, ⟨[99, 49], 3, true, losS A1 B1 0 a.xs.length⟩]) [0, 1] 1 k = add2 (0, 0) (lo A0 k, hi A0 B0 k) := fun k hk => by
      show add2 (0, 0) ((losS A0 B0 0 a.xs.length).getD k (0, 0)) = _
      rw [List.getD_eq_getElem?_getD, losS_get _ _ _ _ _ (by omega), Nat.zero_add]
      rfl
    rw [row_cut (i := 1) hs hb t1]
    rw [row_base (i := 2) hs (fun k => rfl)]
    have t3 : ∀ k, k < (a.xs.map en).length → lsA (mkPk [(a.xs.map en), (cutS A0 B0 a.n 0 (a.xs.map en)), (a.xs.map en), (cutS A1 B1 a.n 0 (a.xs.map en)), (a.xs.map en), (a.xs.map en), (a.xs.map en)] [⟨[99, 48], 1, true, losS A0 B0 0 a.xs.length⟩, ⟨[99, 49], 3, true, losS A1 B1 0 a.xs.length⟩]) [0, 1] 3 k = add2 (0, 0) (lo A1 k, hi A1 B1 k) := fun k hk => by
      show add2 (0, 0) ((losS A1 B1 0 a.xs.length).getD k (0, 0)) = _
      rw [List.getD_eq_getElem?_getD, losS_get _ _ _ _ _ (by omega), Nat.zero_add]
      rfl
    rw [row_cut (i := 3) hs hb t3]
    rw [row_base (i := 4) hs (fun k => rfl)]
    rw [row_base (i := 5) hs (fun k => rfl)]
    rw [row_base (i := 6) hs (fun k => rfl)]
    rfl
  have e20 := D20 hf hP
  have e18 := D18 hf
  have e17 := D17 hf hP hm (by omega)
  have e29 := D29 (st := [0, 1]) true hf hP (by decide) rfl
  rw [hu] at e29
  have e19 := D19 hf hP (rs := [rsd (a.xs.map en) (a.xs.map en), rsd (a.xs.map en) (cutS A0 B0 a.n 0 (a.xs.map en)), rsd (a.xs.map en) (a.xs.map en), rsd (a.xs.map en) (cutS A1 B1 a.n 0 (a.xs.map en)), rsd (a.xs.map en) (a.xs.map en), rsd (a.xs.map en) (a.xs.map en), rsd (a.xs.map en) (a.xs.map en)]) (by unfold ress; rw [hm]; rfl) (fun r hr => by
    simp only [List.mem_cons, List.not_mem_nil, or_false] at hr
    rcases hr with rfl | rfl | rfl | rfl | rfl | rfl | rfl <;> (simp only [rsd, List.length_zipWith, cutS_len, hbl]; omega)) (by simp)
  have e29n := D29 (st := []) false hf hP (by decide) rfl
  have hoff : (((false || offS A0 0 a.xs.length) || offS A1 0 a.xs.length) && (unq (mkPk [(a.xs.map en), (cutS A0 B0 a.n 0 (a.xs.map en)), (a.xs.map en), (cutS A1 B1 a.n 0 (a.xs.map en)), (a.xs.map en), (a.xs.map en), (a.xs.map en)] [⟨[99, 48], 1, true, losS A0 B0 0 a.xs.length⟩, ⟨[99, 49], 3, true, losS A1 B1 0 a.xs.length⟩]) []).isEmpty) = false := by
    cases hn : (unq (mkPk [(a.xs.map en), (cutS A0 B0 a.n 0 (a.xs.map en)), (a.xs.map en), (cutS A1 B1 a.n 0 (a.xs.map en)), (a.xs.map en), (a.xs.map en), (a.xs.map en)] [⟨[99, 48], 1, true, losS A0 B0 0 a.xs.length⟩, ⟨[99, 49], 3, true, losS A1 B1 0 a.xs.length⟩]) []).isEmpty
    · exact Bool.and_false _
    · have he : unq (mkPk [(a.xs.map en), (cutS A0 B0 a.n 0 (a.xs.map en)), (a.xs.map en), (cutS A1 B1 a.n 0 (a.xs.map en)), (a.xs.map en), (a.xs.map en), (a.xs.map en)] [⟨[99, 48], 1, true, losS A0 B0 0 a.xs.length⟩, ⟨[99, 49], 3, true, losS A1 B1 0 a.xs.length⟩]) [] = [] := by simpa using hn
      rw [unq_mk hm] at he
      simp only [List.append_eq_nil_iff] at he
      obtain ⟨_, z1, _, z3, _, z5, _⟩ := he
      have o0 : offS A0 0 a.xs.length = false := by
        cases hj : offS A0 0 a.xs.length with
        | false => rfl
        | true => exact absurd z1 (row_off hs hb (fun k => rfl) (by rw [hbl]; exact hj))
      have o1 : offS A1 0 a.xs.length = false := by
        cases hj : offS A1 0 a.xs.length with
        | false => rfl
        | true => exact absurd z3 (row_off hs hb (fun k => rfl) (by rw [hbl]; exact hj))
      rw [o0, o1]
      rfl
  have hrow2 : ∀ r ∈ ([(a.xs.map en), (a.xs.map en), (a.xs.map en), (cutS A1 B1 a.n 0 (a.xs.map en)), (a.xs.map en), (cutS A0 B0 a.n 0 (a.xs.map en)), (a.xs.map en)] : List (List Int)), r.length = a.xs.length ∧ ∀ y ∈ r, 0 ≤ y ∧ y ≤ 1000000 := by
    intro r hr
    simp only [List.mem_cons, List.not_mem_nil, or_false] at hr
    rcases hr with rfl | rfl | rfl | rfl | rfl | rfl | rfl <;> first | exact rb | exact rc0 | exact rc1
  have hcs2 : ckCs [⟨[99, 48], 5, true, losS A0 B0 0 a.xs.length⟩, ⟨[99, 49], 3, true, losS A1 B1 0 a.xs.length⟩] = 0 := by
    unfold ckCs
    rw [if_neg (by simp)]
    refine fnz_zero.2 fun x hx => ?_
    simp only [csEs, List.mem_cons, List.not_mem_nil, or_false] at hx
    rcases hx with rfl | rfl
    · exact csE_0 (show nameB [99, 48] = true by decide) (by rfl) (los_ck A0 B0 _ _ h1 hx (by decide))
    · exact csE_0 (show nameB [99, 49] = true by decide) (by rfl) (los_ck A1 B1 _ _ h1 hx (by decide))
  have hcc2 : ∀ c ∈ ([⟨[99, 48], 5, true, losS A0 B0 0 a.xs.length⟩, ⟨[99, 49], 3, true, losS A1 B1 0 a.xs.length⟩] : List Cz), c.c < 7 ∧ c.l.length = a.xs.length := by
    intro c hc
    simp only [List.mem_cons, List.not_mem_nil, or_false] at hc
    rcases hc with rfl | rfl <;> exact ⟨by simp, losS_len _ _ _ _⟩
  have hnl2 : ∀ c ∈ ([⟨[99, 48], 5, true, losS A0 B0 0 a.xs.length⟩, ⟨[99, 49], 3, true, losS A1 B1 0 a.xs.length⟩] : List Cz), c.l.length = a.xs.length ∧ c.n.length < 1000000 := by
    intro c hc
    refine ⟨(hcc2 c hc).2, ?_⟩
    simp only [List.mem_cons, List.not_mem_nil, or_false] at hc
    rcases hc with rfl | rfl <;> exact Nat.lt_of_lt_of_le (show 2 < 1000 by decide) (by decide)
  have hP2 : ckPk (mkPk [(a.xs.map en), (a.xs.map en), (a.xs.map en), (cutS A1 B1 a.n 0 (a.xs.map en)), (a.xs.map en), (cutS A0 B0 a.n 0 (a.xs.map en)), (a.xs.map en)] [⟨[99, 48], 5, true, losS A0 B0 0 a.xs.length⟩, ⟨[99, 49], 3, true, losS A1 B1 0 a.xs.length⟩]) = 0 := ck_mk (K := a.xs.length) (by simp) (by simp) h1 (by omega) hrow2 hcs2 hcc2
  have hf2 : (mkPk [(a.xs.map en), (a.xs.map en), (a.xs.map en), (cutS A1 B1 a.n 0 (a.xs.map en)), (a.xs.map en), (cutS A0 B0 a.n 0 (a.xs.map en)), (a.xs.map en)] [⟨[99, 48], 5, true, losS A0 B0 0 a.xs.length⟩, ⟨[99, 49], 3, true, losS A1 B1 0 a.xs.length⟩]).fit := fit_mk (K := a.xs.length) (by simp) (by omega) (fun r hr => (hrow2 r hr).1) (by simp) hnl2
  have hm2 : meds (mkPk [(a.xs.map en), (a.xs.map en), (a.xs.map en), (cutS A1 B1 a.n 0 (a.xs.map en)), (a.xs.map en), (cutS A0 B0 a.n 0 (a.xs.map en)), (a.xs.map en)] [⟨[99, 48], 5, true, losS A0 B0 0 a.xs.length⟩, ⟨[99, 49], 3, true, losS A1 B1 0 a.xs.length⟩]) = (a.xs.map en) := meds_mk (K := a.xs.length) hbl hbl (by rw [cutS_len, hbl]) (by rw [cutS_len, hbl]) lb (cutS_le _ _ _ _ hb1) (cutS_le _ _ _ _ hb1)
  have hs2 : slots (mkPk [(a.xs.map en), (a.xs.map en), (a.xs.map en), (cutS A1 B1 a.n 0 (a.xs.map en)), (a.xs.map en), (cutS A0 B0 a.n 0 (a.xs.map en)), (a.xs.map en)] [⟨[99, 48], 5, true, losS A0 B0 0 a.xs.length⟩, ⟨[99, 49], 3, true, losS A1 B1 0 a.xs.length⟩]) = (a.xs.map en).length := rfl
  have hu2 : unq (mkPk [(a.xs.map en), (a.xs.map en), (a.xs.map en), (cutS A1 B1 a.n 0 (a.xs.map en)), (a.xs.map en), (cutS A0 B0 a.n 0 (a.xs.map en)), (a.xs.map en)] [⟨[99, 48], 5, true, losS A0 B0 0 a.xs.length⟩, ⟨[99, 49], 3, true, losS A1 B1 0 a.xs.length⟩]) [0, 1] = [] := by
    rw [unq_mk hm2]
    rw [row_base (i := 0) hs2 (fun k => rfl)]
    rw [row_base (i := 1) hs2 (fun k => rfl)]
    rw [row_base (i := 2) hs2 (fun k => rfl)]
    have t3 : ∀ k, k < (a.xs.map en).length → lsA (mkPk [(a.xs.map en), (a.xs.map en), (a.xs.map en), (cutS A1 B1 a.n 0 (a.xs.map en)), (a.xs.map en), (cutS A0 B0 a.n 0 (a.xs.map en)), (a.xs.map en)] [⟨[99, 48], 5, true, losS A0 B0 0 a.xs.length⟩, ⟨[99, 49], 3, true, losS A1 B1 0 a.xs.length⟩]) [0, 1] 3 k = add2 (0, 0) (lo A1 k, hi A1 B1 k) := fun k hk => by
      show add2 (0, 0) ((losS A1 B1 0 a.xs.length).getD k (0, 0)) = _
      rw [List.getD_eq_getElem?_getD, losS_get _ _ _ _ _ (by omega), Nat.zero_add]
      rfl
    rw [row_cut (i := 3) hs2 hb t3]
    rw [row_base (i := 4) hs2 (fun k => rfl)]
    have t5 : ∀ k, k < (a.xs.map en).length → lsA (mkPk [(a.xs.map en), (a.xs.map en), (a.xs.map en), (cutS A1 B1 a.n 0 (a.xs.map en)), (a.xs.map en), (cutS A0 B0 a.n 0 (a.xs.map en)), (a.xs.map en)] [⟨[99, 48], 5, true, losS A0 B0 0 a.xs.length⟩, ⟨[99, 49], 3, true, losS A1 B1 0 a.xs.length⟩]) [0, 1] 5 k = add2 (0, 0) (lo A0 k, hi A0 B0 k) := fun k hk => by
      show add2 (0, 0) ((losS A0 B0 0 a.xs.length).getD k (0, 0)) = _
      rw [List.getD_eq_getElem?_getD, losS_get _ _ _ _ _ (by omega), Nat.zero_add]
      rfl
    rw [row_cut (i := 5) hs2 hb t5]
    rw [row_base (i := 6) hs2 (fun k => rfl)]
    rfl
  have e202 := D20 hf2 hP2
  have e182 := D18 hf2
  have e172 := D17 hf2 hP2 hm2 (by omega)
  have e292 := D29 (st := [0, 1]) true hf2 hP2 (by decide) rfl
  rw [hu2] at e292
  have e192 := D19 hf2 hP2 (rs := [rsd (a.xs.map en) (a.xs.map en), rsd (a.xs.map en) (a.xs.map en), rsd (a.xs.map en) (a.xs.map en), rsd (a.xs.map en) (cutS A1 B1 a.n 0 (a.xs.map en)), rsd (a.xs.map en) (a.xs.map en), rsd (a.xs.map en) (cutS A0 B0 a.n 0 (a.xs.map en)), rsd (a.xs.map en) (a.xs.map en)]) (by unfold ress; rw [hm2]; rfl) (fun r hr => by
    simp only [List.mem_cons, List.not_mem_nil, or_false] at hr
    rcases hr with rfl | rfl | rfl | rfl | rfl | rfl | rfl <;> (simp only [rsd, List.length_zipWith, cutS_len, hbl]; omega)) (by simp)
  have e27 := D27 true [0, 1] (by decide)
  rw [allA a hx h1]
  rw [roundB0 a A0 B0 (a.xs.map en) (a.xs.map en) (a.xs.map en) (a.xs.map en) (a.xs.map en) (a.xs.map en) (a.xs.map en)  false hx h1 (by rw [hL]; simp) (by rw [hL]; rfl) hbl (fun j h _ => by have := hb _ (List.getElem_mem h); omega)]
  rw [roundB1 a A1 B1 (a.xs.map en) (cutS A0 B0 a.n 0 (a.xs.map en)) (a.xs.map en) (a.xs.map en) (a.xs.map en) (a.xs.map en) (a.xs.map en) (losS A0 B0 0 a.xs.length) (false || offS A0 0 a.xs.length) hx h1 (by rw [hL]; simp) (by rw [hL]; rfl) hbl (fun j h _ => by have := hb _ (List.getElem_mem h); omega)]
  rw [tC2 a (a.xs.map en) (cutS A0 B0 a.n 0 (a.xs.map en)) (a.xs.map en) (cutS A1 B1 a.n 0 (a.xs.map en)) (a.xs.map en) (a.xs.map en) (a.xs.map en) (rsd (a.xs.map en) (a.xs.map en)) (rsd (a.xs.map en) (cutS A0 B0 a.n 0 (a.xs.map en))) (rsd (a.xs.map en) (a.xs.map en)) (rsd (a.xs.map en) (cutS A1 B1 a.n 0 (a.xs.map en))) (rsd (a.xs.map en) (a.xs.map en)) (rsd (a.xs.map en) (a.xs.map en)) (rsd (a.xs.map en) (a.xs.map en)) (losS A0 B0 0 a.xs.length) (losS A1 B1 0 a.xs.length) ((false || offS A0 0 a.xs.length) || offS A1 0 a.xs.length) _ (by rw [hL]; rfl) e20 e18 e17 e27 e29 e29n e19 hoff]
  rw [loopD2 a (a.xs.map en) (cutS A0 B0 a.n 0 (a.xs.map en)) (a.xs.map en) (cutS A1 B1 a.n 0 (a.xs.map en)) (a.xs.map en) (a.xs.map en) (a.xs.map en) (rsd (a.xs.map en) (a.xs.map en)) (rsd (a.xs.map en) (cutS A0 B0 a.n 0 (a.xs.map en))) (rsd (a.xs.map en) (a.xs.map en)) (rsd (a.xs.map en) (cutS A1 B1 a.n 0 (a.xs.map en))) (rsd (a.xs.map en) (a.xs.map en)) (rsd (a.xs.map en) (a.xs.map en)) (rsd (a.xs.map en) (a.xs.map en)) (losS A0 B0 0 a.xs.length) (losS A1 B1 0 a.xs.length) hx 0 (by omega)]
  exact tE2 a (a.xs.map en) (cutS A0 B0 a.n 0 (a.xs.map en)) (a.xs.map en) (cutS A1 B1 a.n 0 (a.xs.map en)) (a.xs.map en) (a.xs.map en) (a.xs.map en) (rsd (a.xs.map en) (a.xs.map en)) (rsd (a.xs.map en) (cutS A0 B0 a.n 0 (a.xs.map en))) (rsd (a.xs.map en) (a.xs.map en)) (rsd (a.xs.map en) (cutS A1 B1 a.n 0 (a.xs.map en))) (rsd (a.xs.map en) (a.xs.map en)) (rsd (a.xs.map en) (a.xs.map en)) (rsd (a.xs.map en) (a.xs.map en)) (losS A0 B0 0 a.xs.length) (losS A1 B1 0 a.xs.length) (emp_f (by omega)) (mx_f (by omega)) (emp_f (by rw [cutS_len]; omega)) (mx_f (by rw [cutS_len]; omega)) (emp_f (by omega)) (mx_f (by omega)) (emp_f (by rw [cutS_len]; omega)) (mx_f (by rw [cutS_len]; omega)) (emp_f (by omega)) (mx_f (by omega)) (emp_f (by omega)) (mx_f (by omega)) (emp_f (by omega)) (mx_f (by omega)) (emp_f (by rw [losS_len]; omega)) (mx_f (by rw [losS_len]; omega)) (emp_f (by rw [losS_len]; omega)) (mx_f (by rw [losS_len]; omega)) e182 e172 e27 e292 e192 D89 hx (fun r hr => by
    simp only [List.mem_cons, List.not_mem_nil, or_false] at hr
    rcases hr with rfl | rfl | rfl | rfl | rfl | rfl | rfl <;> (simp only [rsd, List.length_zipWith, cutS_len, hbl]; omega)) h16
theorem made3 (a : Ar) (hx : a.xs.length ≤ 4) (h1 : 1 ≤ a.xs.length) (A0 B0 : F8) (A1 B1 : F8) (A2 B2 : F8) (hL : a.L = [(A0, B0), (A1, B1), (A2, B2)]) (h16 : den FaT.T 16 [] = some (.bool true)) : LO a (a.xs.map en) 0 = some (.ret (.bool true), [], 0, []) := by
  have hbl : (a.xs.map en).length = a.xs.length := by simp
  have hb := base_b a
  have hb1 : ∀ y ∈ (a.xs.map en), 1000 ≤ y := fun y hy => (hb y hy).1
  have lb : ∀ k, (a.xs.map en).getD k 0 ≤ (a.xs.map en).getD k 0 := fun k => Int.le_refl _
  have rb : (a.xs.map en).length = a.xs.length ∧ ∀ y ∈ (a.xs.map en), 0 ≤ y ∧ y ≤ 1000000 := ⟨hbl, fun y hy => by have := hb y hy; omega⟩
  have rc0 : (cutS A0 B0 a.n 0 (a.xs.map en)).length = a.xs.length ∧ ∀ y ∈ cutS A0 B0 a.n 0 (a.xs.map en), 0 ≤ y ∧ y ≤ 1000000 := ⟨by rw [cutS_len, hbl], cutS_mem A0 B0 a.n _ hb⟩
  have rc1 : (cutS A1 B1 a.n 0 (a.xs.map en)).length = a.xs.length ∧ ∀ y ∈ cutS A1 B1 a.n 0 (a.xs.map en), 0 ≤ y ∧ y ≤ 1000000 := ⟨by rw [cutS_len, hbl], cutS_mem A1 B1 a.n _ hb⟩
  have rc2 : (cutS A2 B2 a.n 0 (a.xs.map en)).length = a.xs.length ∧ ∀ y ∈ cutS A2 B2 a.n 0 (a.xs.map en), 0 ≤ y ∧ y ≤ 1000000 := ⟨by rw [cutS_len, hbl], cutS_mem A2 B2 a.n _ hb⟩
  have hrow : ∀ r ∈ ([(a.xs.map en), (cutS A0 B0 a.n 0 (a.xs.map en)), (a.xs.map en), (cutS A1 B1 a.n 0 (a.xs.map en)), (a.xs.map en), (cutS A2 B2 a.n 0 (a.xs.map en)), (a.xs.map en)] : List (List Int)), r.length = a.xs.length ∧ ∀ y ∈ r, 0 ≤ y ∧ y ≤ 1000000 := by
    intro r hr
    simp only [List.mem_cons, List.not_mem_nil, or_false] at hr
    rcases hr with rfl | rfl | rfl | rfl | rfl | rfl | rfl <;> first | exact rb | exact rc0 | exact rc1 | exact rc2
  have hcs : ckCs [⟨[99, 48], 1, true, losS A0 B0 0 a.xs.length⟩, ⟨[99, 49], 3, true, losS A1 B1 0 a.xs.length⟩, ⟨[99, 50], 5, true, losS A2 B2 0 a.xs.length⟩] = 0 := by
    unfold ckCs
    rw [if_neg (by simp)]
    refine fnz_zero.2 fun x hx => ?_
    simp only [csEs, List.mem_cons, List.not_mem_nil, or_false] at hx
    rcases hx with rfl | rfl | rfl
    · exact csE_0 (show nameB [99, 48] = true by decide) (by rfl) (los_ck A0 B0 _ _ h1 hx (by decide))
    · exact csE_0 (show nameB [99, 49] = true by decide) (by rfl) (los_ck A1 B1 _ _ h1 hx (by decide))
    · exact csE_0 (show nameB [99, 50] = true by decide) (by rfl) (los_ck A2 B2 _ _ h1 hx (by decide))
  have hcc : ∀ c ∈ ([⟨[99, 48], 1, true, losS A0 B0 0 a.xs.length⟩, ⟨[99, 49], 3, true, losS A1 B1 0 a.xs.length⟩, ⟨[99, 50], 5, true, losS A2 B2 0 a.xs.length⟩] : List Cz), c.c < 7 ∧ c.l.length = a.xs.length := by
    intro c hc
    simp only [List.mem_cons, List.not_mem_nil, or_false] at hc
    rcases hc with rfl | rfl | rfl <;> exact ⟨by simp, losS_len _ _ _ _⟩
  have hnl : ∀ c ∈ ([⟨[99, 48], 1, true, losS A0 B0 0 a.xs.length⟩, ⟨[99, 49], 3, true, losS A1 B1 0 a.xs.length⟩, ⟨[99, 50], 5, true, losS A2 B2 0 a.xs.length⟩] : List Cz), c.l.length = a.xs.length ∧ c.n.length < 1000000 := by
    intro c hc
    refine ⟨(hcc c hc).2, ?_⟩
    simp only [List.mem_cons, List.not_mem_nil, or_false] at hc
    rcases hc with rfl | rfl | rfl <;> exact Nat.lt_of_lt_of_le (show 2 < 1000 by decide) (by decide)
  have hP : ckPk (mkPk [(a.xs.map en), (cutS A0 B0 a.n 0 (a.xs.map en)), (a.xs.map en), (cutS A1 B1 a.n 0 (a.xs.map en)), (a.xs.map en), (cutS A2 B2 a.n 0 (a.xs.map en)), (a.xs.map en)] [⟨[99, 48], 1, true, losS A0 B0 0 a.xs.length⟩, ⟨[99, 49], 3, true, losS A1 B1 0 a.xs.length⟩, ⟨[99, 50], 5, true, losS A2 B2 0 a.xs.length⟩]) = 0 := ck_mk (K := a.xs.length) (by simp) (by simp) h1 (by omega) hrow hcs hcc
  have hf : (mkPk [(a.xs.map en), (cutS A0 B0 a.n 0 (a.xs.map en)), (a.xs.map en), (cutS A1 B1 a.n 0 (a.xs.map en)), (a.xs.map en), (cutS A2 B2 a.n 0 (a.xs.map en)), (a.xs.map en)] [⟨[99, 48], 1, true, losS A0 B0 0 a.xs.length⟩, ⟨[99, 49], 3, true, losS A1 B1 0 a.xs.length⟩, ⟨[99, 50], 5, true, losS A2 B2 0 a.xs.length⟩]).fit := fit_mk (K := a.xs.length) (by simp) (by omega) (fun r hr => (hrow r hr).1) (by simp) hnl
  have hm : meds (mkPk [(a.xs.map en), (cutS A0 B0 a.n 0 (a.xs.map en)), (a.xs.map en), (cutS A1 B1 a.n 0 (a.xs.map en)), (a.xs.map en), (cutS A2 B2 a.n 0 (a.xs.map en)), (a.xs.map en)] [⟨[99, 48], 1, true, losS A0 B0 0 a.xs.length⟩, ⟨[99, 49], 3, true, losS A1 B1 0 a.xs.length⟩, ⟨[99, 50], 5, true, losS A2 B2 0 a.xs.length⟩]) = (a.xs.map en) := meds_mk (K := a.xs.length) hbl (by rw [cutS_len, hbl]) (by rw [cutS_len, hbl]) (by rw [cutS_len, hbl]) (cutS_le _ _ _ _ hb1) (cutS_le _ _ _ _ hb1) (cutS_le _ _ _ _ hb1)
  have hs : slots (mkPk [(a.xs.map en), (cutS A0 B0 a.n 0 (a.xs.map en)), (a.xs.map en), (cutS A1 B1 a.n 0 (a.xs.map en)), (a.xs.map en), (cutS A2 B2 a.n 0 (a.xs.map en)), (a.xs.map en)] [⟨[99, 48], 1, true, losS A0 B0 0 a.xs.length⟩, ⟨[99, 49], 3, true, losS A1 B1 0 a.xs.length⟩, ⟨[99, 50], 5, true, losS A2 B2 0 a.xs.length⟩]) = (a.xs.map en).length := rfl
  have hu : unq (mkPk [(a.xs.map en), (cutS A0 B0 a.n 0 (a.xs.map en)), (a.xs.map en), (cutS A1 B1 a.n 0 (a.xs.map en)), (a.xs.map en), (cutS A2 B2 a.n 0 (a.xs.map en)), (a.xs.map en)] [⟨[99, 48], 1, true, losS A0 B0 0 a.xs.length⟩, ⟨[99, 49], 3, true, losS A1 B1 0 a.xs.length⟩, ⟨[99, 50], 5, true, losS A2 B2 0 a.xs.length⟩]) [0, 1, 2] = [] := by
    rw [unq_mk hm]
    rw [row_base (i := 0) hs (fun k => rfl)]
    have t1 : ∀ k, k < (a.xs.map en).length → lsA (mkPk [(a.xs.map en), (cutS A0 B0 a.n 0 (a.xs.map en)), (a.xs.map en), (cutS A1 B1 a.n 0 (a.xs.map en)), (a.xs.map en), (cutS A2 B2 a.n 0 (a.xs.map en)), (a.xs.map en)] [⟨[99, 48], 1, true, losS A0 B0 0 a.xs.length⟩, ⟨[99, 49], 3, true, losS A1 B1 0 a.xs.length⟩, ⟨[99, 50], 5, true, losS A2 B2 0 a.xs.length⟩]) [0, 1, 2] 1 k = add2 (0, 0) (lo A0 k, hi A0 B0 k) := fun k hk => by
      show add2 (0, 0) ((losS A0 B0 0 a.xs.length).getD k (0, 0)) = _
      rw [List.getD_eq_getElem?_getD, losS_get _ _ _ _ _ (by omega), Nat.zero_add]
      rfl
    rw [row_cut (i := 1) hs hb t1]
    rw [row_base (i := 2) hs (fun k => rfl)]
    have t3 : ∀ k, k < (a.xs.map en).length → lsA (mkPk [(a.xs.map en), (cutS A0 B0 a.n 0 (a.xs.map en)), (a.xs.map en), (cutS A1 B1 a.n 0 (a.xs.map en)), (a.xs.map en), (cutS A2 B2 a.n 0 (a.xs.map en)), (a.xs.map en)] [⟨[99, 48], 1, true, losS A0 B0 0 a.xs.length⟩, ⟨[99, 49], 3, true, losS A1 B1 0 a.xs.length⟩, ⟨[99, 50], 5, true, losS A2 B2 0 a.xs.length⟩]) [0, 1, 2] 3 k = add2 (0, 0) (lo A1 k, hi A1 B1 k) := fun k hk => by
      show add2 (0, 0) ((losS A1 B1 0 a.xs.length).getD k (0, 0)) = _
      rw [List.getD_eq_getElem?_getD, losS_get _ _ _ _ _ (by omega), Nat.zero_add]
      rfl
    rw [row_cut (i := 3) hs hb t3]
    rw [row_base (i := 4) hs (fun k => rfl)]
    have t5 : ∀ k, k < (a.xs.map en).length → lsA (mkPk [(a.xs.map en), (cutS A0 B0 a.n 0 (a.xs.map en)), (a.xs.map en), (cutS A1 B1 a.n 0 (a.xs.map en)), (a.xs.map en), (cutS A2 B2 a.n 0 (a.xs.map en)), (a.xs.map en)] [⟨[99, 48], 1, true, losS A0 B0 0 a.xs.length⟩, ⟨[99, 49], 3, true, losS A1 B1 0 a.xs.length⟩, ⟨[99, 50], 5, true, losS A2 B2 0 a.xs.length⟩]) [0, 1, 2] 5 k = add2 (0, 0) (lo A2 k, hi A2 B2 k) := fun k hk => by
      show add2 (0, 0) ((losS A2 B2 0 a.xs.length).getD k (0, 0)) = _
      rw [List.getD_eq_getElem?_getD, losS_get _ _ _ _ _ (by omega), Nat.zero_add]
      rfl
    rw [row_cut (i := 5) hs hb t5]
    rw [row_base (i := 6) hs (fun k => rfl)]
    rfl
  have e20 := D20 hf hP
  have e18 := D18 hf
  have e17 := D17 hf hP hm (by omega)
  have e29 := D29 (st := [0, 1, 2]) true hf hP (by decide) rfl
  rw [hu] at e29
  have e19 := D19 hf hP (rs := [rsd (a.xs.map en) (a.xs.map en), rsd (a.xs.map en) (cutS A0 B0 a.n 0 (a.xs.map en)), rsd (a.xs.map en) (a.xs.map en), rsd (a.xs.map en) (cutS A1 B1 a.n 0 (a.xs.map en)), rsd (a.xs.map en) (a.xs.map en), rsd (a.xs.map en) (cutS A2 B2 a.n 0 (a.xs.map en)), rsd (a.xs.map en) (a.xs.map en)]) (by unfold ress; rw [hm]; rfl) (fun r hr => by
    simp only [List.mem_cons, List.not_mem_nil, or_false] at hr
    rcases hr with rfl | rfl | rfl | rfl | rfl | rfl | rfl <;> (simp only [rsd, List.length_zipWith, cutS_len, hbl]; omega)) (by simp)
  have e29n := D29 (st := []) false hf hP (by decide) rfl
  have hoff : ((((false || offS A0 0 a.xs.length) || offS A1 0 a.xs.length) || offS A2 0 a.xs.length) && (unq (mkPk [(a.xs.map en), (cutS A0 B0 a.n 0 (a.xs.map en)), (a.xs.map en), (cutS A1 B1 a.n 0 (a.xs.map en)), (a.xs.map en), (cutS A2 B2 a.n 0 (a.xs.map en)), (a.xs.map en)] [⟨[99, 48], 1, true, losS A0 B0 0 a.xs.length⟩, ⟨[99, 49], 3, true, losS A1 B1 0 a.xs.length⟩, ⟨[99, 50], 5, true, losS A2 B2 0 a.xs.length⟩]) []).isEmpty) = false := by
    cases hn : (unq (mkPk [(a.xs.map en), (cutS A0 B0 a.n 0 (a.xs.map en)), (a.xs.map en), (cutS A1 B1 a.n 0 (a.xs.map en)), (a.xs.map en), (cutS A2 B2 a.n 0 (a.xs.map en)), (a.xs.map en)] [⟨[99, 48], 1, true, losS A0 B0 0 a.xs.length⟩, ⟨[99, 49], 3, true, losS A1 B1 0 a.xs.length⟩, ⟨[99, 50], 5, true, losS A2 B2 0 a.xs.length⟩]) []).isEmpty
    · exact Bool.and_false _
    · have he : unq (mkPk [(a.xs.map en), (cutS A0 B0 a.n 0 (a.xs.map en)), (a.xs.map en), (cutS A1 B1 a.n 0 (a.xs.map en)), (a.xs.map en), (cutS A2 B2 a.n 0 (a.xs.map en)), (a.xs.map en)] [⟨[99, 48], 1, true, losS A0 B0 0 a.xs.length⟩, ⟨[99, 49], 3, true, losS A1 B1 0 a.xs.length⟩, ⟨[99, 50], 5, true, losS A2 B2 0 a.xs.length⟩]) [] = [] := by simpa using hn
      rw [unq_mk hm] at he
      simp only [List.append_eq_nil_iff] at he
      obtain ⟨_, z1, _, z3, _, z5, _⟩ := he
      have o0 : offS A0 0 a.xs.length = false := by
        cases hj : offS A0 0 a.xs.length with
        | false => rfl
        | true => exact absurd z1 (row_off hs hb (fun k => rfl) (by rw [hbl]; exact hj))
      have o1 : offS A1 0 a.xs.length = false := by
        cases hj : offS A1 0 a.xs.length with
        | false => rfl
        | true => exact absurd z3 (row_off hs hb (fun k => rfl) (by rw [hbl]; exact hj))
      have o2 : offS A2 0 a.xs.length = false := by
        cases hj : offS A2 0 a.xs.length with
        | false => rfl
        | true => exact absurd z5 (row_off hs hb (fun k => rfl) (by rw [hbl]; exact hj))
      rw [o0, o1, o2]
      rfl
  have hrow2 : ∀ r ∈ ([(a.xs.map en), (cutS A2 B2 a.n 0 (a.xs.map en)), (a.xs.map en), (cutS A1 B1 a.n 0 (a.xs.map en)), (a.xs.map en), (cutS A0 B0 a.n 0 (a.xs.map en)), (a.xs.map en)] : List (List Int)), r.length = a.xs.length ∧ ∀ y ∈ r, 0 ≤ y ∧ y ≤ 1000000 := by
    intro r hr
    simp only [List.mem_cons, List.not_mem_nil, or_false] at hr
    rcases hr with rfl | rfl | rfl | rfl | rfl | rfl | rfl <;> first | exact rb | exact rc0 | exact rc1 | exact rc2
  have hcs2 : ckCs [⟨[99, 48], 5, true, losS A0 B0 0 a.xs.length⟩, ⟨[99, 49], 3, true, losS A1 B1 0 a.xs.length⟩, ⟨[99, 50], 1, true, losS A2 B2 0 a.xs.length⟩] = 0 := by
    unfold ckCs
    rw [if_neg (by simp)]
    refine fnz_zero.2 fun x hx => ?_
    simp only [csEs, List.mem_cons, List.not_mem_nil, or_false] at hx
    rcases hx with rfl | rfl | rfl
    · exact csE_0 (show nameB [99, 48] = true by decide) (by rfl) (los_ck A0 B0 _ _ h1 hx (by decide))
    · exact csE_0 (show nameB [99, 49] = true by decide) (by rfl) (los_ck A1 B1 _ _ h1 hx (by decide))
    · exact csE_0 (show nameB [99, 50] = true by decide) (by rfl) (los_ck A2 B2 _ _ h1 hx (by decide))
  have hcc2 : ∀ c ∈ ([⟨[99, 48], 5, true, losS A0 B0 0 a.xs.length⟩, ⟨[99, 49], 3, true, losS A1 B1 0 a.xs.length⟩, ⟨[99, 50], 1, true, losS A2 B2 0 a.xs.length⟩] : List Cz), c.c < 7 ∧ c.l.length = a.xs.length := by
    intro c hc
    simp only [List.mem_cons, List.not_mem_nil, or_false] at hc
    rcases hc with rfl | rfl | rfl <;> exact ⟨by simp, losS_len _ _ _ _⟩
  have hnl2 : ∀ c ∈ ([⟨[99, 48], 5, true, losS A0 B0 0 a.xs.length⟩, ⟨[99, 49], 3, true, losS A1 B1 0 a.xs.length⟩, ⟨[99, 50], 1, true, losS A2 B2 0 a.xs.length⟩] : List Cz), c.l.length = a.xs.length ∧ c.n.length < 1000000 := by
    intro c hc
    refine ⟨(hcc2 c hc).2, ?_⟩
    simp only [List.mem_cons, List.not_mem_nil, or_false] at hc
    rcases hc with rfl | rfl | rfl <;> exact Nat.lt_of_lt_of_le (show 2 < 1000 by decide) (by decide)
  have hP2 : ckPk (mkPk [(a.xs.map en), (cutS A2 B2 a.n 0 (a.xs.map en)), (a.xs.map en), (cutS A1 B1 a.n 0 (a.xs.map en)), (a.xs.map en), (cutS A0 B0 a.n 0 (a.xs.map en)), (a.xs.map en)] [⟨[99, 48], 5, true, losS A0 B0 0 a.xs.length⟩, ⟨[99, 49], 3, true, losS A1 B1 0 a.xs.length⟩, ⟨[99, 50], 1, true, losS A2 B2 0 a.xs.length⟩]) = 0 := ck_mk (K := a.xs.length) (by simp) (by simp) h1 (by omega) hrow2 hcs2 hcc2
  have hf2 : (mkPk [(a.xs.map en), (cutS A2 B2 a.n 0 (a.xs.map en)), (a.xs.map en), (cutS A1 B1 a.n 0 (a.xs.map en)), (a.xs.map en), (cutS A0 B0 a.n 0 (a.xs.map en)), (a.xs.map en)] [⟨[99, 48], 5, true, losS A0 B0 0 a.xs.length⟩, ⟨[99, 49], 3, true, losS A1 B1 0 a.xs.length⟩, ⟨[99, 50], 1, true, losS A2 B2 0 a.xs.length⟩]).fit := fit_mk (K := a.xs.length) (by simp) (by omega) (fun r hr => (hrow2 r hr).1) (by simp) hnl2
  have hm2 : meds (mkPk [(a.xs.map en), (cutS A2 B2 a.n 0 (a.xs.map en)), (a.xs.map en), (cutS A1 B1 a.n 0 (a.xs.map en)), (a.xs.map en), (cutS A0 B0 a.n 0 (a.xs.map en)), (a.xs.map en)] [⟨[99, 48], 5, true, losS A0 B0 0 a.xs.length⟩, ⟨[99, 49], 3, true, losS A1 B1 0 a.xs.length⟩, ⟨[99, 50], 1, true, losS A2 B2 0 a.xs.length⟩]) = (a.xs.map en) := meds_mk (K := a.xs.length) hbl (by rw [cutS_len, hbl]) (by rw [cutS_len, hbl]) (by rw [cutS_len, hbl]) (cutS_le _ _ _ _ hb1) (cutS_le _ _ _ _ hb1) (cutS_le _ _ _ _ hb1)
  have hs2 : slots (mkPk [(a.xs.map en), (cutS A2 B2 a.n 0 (a.xs.map en)), (a.xs.map en), (cutS A1 B1 a.n 0 (a.xs.map en)), (a.xs.map en), (cutS A0 B0 a.n 0 (a.xs.map en)), (a.xs.map en)] [⟨[99, 48], 5, true, losS A0 B0 0 a.xs.length⟩, ⟨[99, 49], 3, true, losS A1 B1 0 a.xs.length⟩, ⟨[99, 50], 1, true, losS A2 B2 0 a.xs.length⟩]) = (a.xs.map en).length := rfl
  have hu2 : unq (mkPk [(a.xs.map en), (cutS A2 B2 a.n 0 (a.xs.map en)), (a.xs.map en), (cutS A1 B1 a.n 0 (a.xs.map en)), (a.xs.map en), (cutS A0 B0 a.n 0 (a.xs.map en)), (a.xs.map en)] [⟨[99, 48], 5, true, losS A0 B0 0 a.xs.length⟩, ⟨[99, 49], 3, true, losS A1 B1 0 a.xs.length⟩, ⟨[99, 50], 1, true, losS A2 B2 0 a.xs.length⟩]) [0, 1, 2] = [] := by
    rw [unq_mk hm2]
    rw [row_base (i := 0) hs2 (fun k => rfl)]
    have t1 : ∀ k, k < (a.xs.map en).length → lsA (mkPk [(a.xs.map en), (cutS A2 B2 a.n 0 (a.xs.map en)), (a.xs.map en), (cutS A1 B1 a.n 0 (a.xs.map en)), (a.xs.map en), (cutS A0 B0 a.n 0 (a.xs.map en)), (a.xs.map en)] [⟨[99, 48], 5, true, losS A0 B0 0 a.xs.length⟩, ⟨[99, 49], 3, true, losS A1 B1 0 a.xs.length⟩, ⟨[99, 50], 1, true, losS A2 B2 0 a.xs.length⟩]) [0, 1, 2] 1 k = add2 (0, 0) (lo A2 k, hi A2 B2 k) := fun k hk => by
      show add2 (0, 0) ((losS A2 B2 0 a.xs.length).getD k (0, 0)) = _
      rw [List.getD_eq_getElem?_getD, losS_get _ _ _ _ _ (by omega), Nat.zero_add]
      rfl
    rw [row_cut (i := 1) hs2 hb t1]
    rw [row_base (i := 2) hs2 (fun k => rfl)]
    have t3 : ∀ k, k < (a.xs.map en).length → lsA (mkPk [(a.xs.map en), (cutS A2 B2 a.n 0 (a.xs.map en)), (a.xs.map en), (cutS A1 B1 a.n 0 (a.xs.map en)), (a.xs.map en), (cutS A0 B0 a.n 0 (a.xs.map en)), (a.xs.map en)] [⟨[99, 48], 5, true, losS A0 B0 0 a.xs.length⟩, ⟨[99, 49], 3, true, losS A1 B1 0 a.xs.length⟩, ⟨[99, 50], 1, true, losS A2 B2 0 a.xs.length⟩]) [0, 1, 2] 3 k = add2 (0, 0) (lo A1 k, hi A1 B1 k) := fun k hk => by
      show add2 (0, 0) ((losS A1 B1 0 a.xs.length).getD k (0, 0)) = _
      rw [List.getD_eq_getElem?_getD, losS_get _ _ _ _ _ (by omega), Nat.zero_add]
      rfl
    rw [row_cut (i := 3) hs2 hb t3]
    rw [row_base (i := 4) hs2 (fun k => rfl)]
    have t5 : ∀ k, k < (a.xs.map en).length → lsA (mkPk [(a.xs.map en), (cutS A2 B2 a.n 0 (a.xs.map en)), (a.xs.map en), (cutS A1 B1 a.n 0 (a.xs.map en)), (a.xs.map en), (cutS A0 B0 a.n 0 (a.xs.map en)), (a.xs.map en)] [⟨[99, 48], 5, true, losS A0 B0 0 a.xs.length⟩, ⟨[99, 49], 3, true, losS A1 B1 0 a.xs.length⟩, ⟨[99, 50], 1, true, losS A2 B2 0 a.xs.length⟩]) [0, 1, 2] 5 k = add2 (0, 0) (lo A0 k, hi A0 B0 k) := fun k hk => by
      show add2 (0, 0) ((losS A0 B0 0 a.xs.length).getD k (0, 0)) = _
      rw [List.getD_eq_getElem?_getD, losS_get _ _ _ _ _ (by omega), Nat.zero_add]
      rfl
    rw [row_cut (i := 5) hs2 hb t5]
    rw [row_base (i := 6) hs2 (fun k => rfl)]
    rfl
  have e202 := D20 hf2 hP2
  have e182 := D18 hf2
  have e172 := D17 hf2 hP2 hm2 (by omega)
  have e292 := D29 (st := [0, 1, 2]) true hf2 hP2 (by decide) rfl
  rw [hu2] at e292
  have e192 := D19 hf2 hP2 (rs := [rsd (a.xs.map en) (a.xs.map en), rsd (a.xs.map en) (cutS A2 B2 a.n 0 (a.xs.map en)), rsd (a.xs.map en) (a.xs.map en), rsd (a.xs.map en) (cutS A1 B1 a.n 0 (a.xs.map en)), rsd (a.xs.map en) (a.xs.map en), rsd (a.xs.map en) (cutS A0 B0 a.n 0 (a.xs.map en)), rsd (a.xs.map en) (a.xs.map en)]) (by unfold ress; rw [hm2]; rfl) (fun r hr => by
    simp only [List.mem_cons, List.not_mem_nil, or_false] at hr
    rcases hr with rfl | rfl | rfl | rfl | rfl | rfl | rfl <;> (simp only [rsd, List.length_zipWith, cutS_len, hbl]; omega)) (by simp)
  have e27 := D27 true [0, 1, 2] (by decide)
  rw [allA a hx h1]
  rw [roundB0 a A0 B0 (a.xs.map en) (a.xs.map en) (a.xs.map en) (a.xs.map en) (a.xs.map en) (a.xs.map en) (a.xs.map en)  false hx h1 (by rw [hL]; simp) (by rw [hL]; rfl) hbl (fun j h _ => by have := hb _ (List.getElem_mem h); omega)]
  rw [roundB1 a A1 B1 (a.xs.map en) (cutS A0 B0 a.n 0 (a.xs.map en)) (a.xs.map en) (a.xs.map en) (a.xs.map en) (a.xs.map en) (a.xs.map en) (losS A0 B0 0 a.xs.length) (false || offS A0 0 a.xs.length) hx h1 (by rw [hL]; simp) (by rw [hL]; rfl) hbl (fun j h _ => by have := hb _ (List.getElem_mem h); omega)]
  rw [roundB2 a A2 B2 (a.xs.map en) (cutS A0 B0 a.n 0 (a.xs.map en)) (a.xs.map en) (cutS A1 B1 a.n 0 (a.xs.map en)) (a.xs.map en) (a.xs.map en) (a.xs.map en) (losS A0 B0 0 a.xs.length) (losS A1 B1 0 a.xs.length) ((false || offS A0 0 a.xs.length) || offS A1 0 a.xs.length) hx h1 (by rw [hL]; simp) (by rw [hL]; rfl) hbl (fun j h _ => by have := hb _ (List.getElem_mem h); omega)]
  rw [tC3 a (a.xs.map en) (cutS A0 B0 a.n 0 (a.xs.map en)) (a.xs.map en) (cutS A1 B1 a.n 0 (a.xs.map en)) (a.xs.map en) (cutS A2 B2 a.n 0 (a.xs.map en)) (a.xs.map en) (rsd (a.xs.map en) (a.xs.map en)) (rsd (a.xs.map en) (cutS A0 B0 a.n 0 (a.xs.map en))) (rsd (a.xs.map en) (a.xs.map en)) (rsd (a.xs.map en) (cutS A1 B1 a.n 0 (a.xs.map en))) (rsd (a.xs.map en) (a.xs.map en)) (rsd (a.xs.map en) (cutS A2 B2 a.n 0 (a.xs.map en))) (rsd (a.xs.map en) (a.xs.map en)) (losS A0 B0 0 a.xs.length) (losS A1 B1 0 a.xs.length) (losS A2 B2 0 a.xs.length) (((false || offS A0 0 a.xs.length) || offS A1 0 a.xs.length) || offS A2 0 a.xs.length) _ (by rw [hL]; rfl) e20 e18 e17 e27 e29 e29n e19 hoff]
  rw [loopD3 a (a.xs.map en) (cutS A0 B0 a.n 0 (a.xs.map en)) (a.xs.map en) (cutS A1 B1 a.n 0 (a.xs.map en)) (a.xs.map en) (cutS A2 B2 a.n 0 (a.xs.map en)) (a.xs.map en) (rsd (a.xs.map en) (a.xs.map en)) (rsd (a.xs.map en) (cutS A0 B0 a.n 0 (a.xs.map en))) (rsd (a.xs.map en) (a.xs.map en)) (rsd (a.xs.map en) (cutS A1 B1 a.n 0 (a.xs.map en))) (rsd (a.xs.map en) (a.xs.map en)) (rsd (a.xs.map en) (cutS A2 B2 a.n 0 (a.xs.map en))) (rsd (a.xs.map en) (a.xs.map en)) (losS A0 B0 0 a.xs.length) (losS A1 B1 0 a.xs.length) (losS A2 B2 0 a.xs.length) hx 0 (by omega)]
  exact tE3 a (a.xs.map en) (cutS A0 B0 a.n 0 (a.xs.map en)) (a.xs.map en) (cutS A1 B1 a.n 0 (a.xs.map en)) (a.xs.map en) (cutS A2 B2 a.n 0 (a.xs.map en)) (a.xs.map en) (rsd (a.xs.map en) (a.xs.map en)) (rsd (a.xs.map en) (cutS A0 B0 a.n 0 (a.xs.map en))) (rsd (a.xs.map en) (a.xs.map en)) (rsd (a.xs.map en) (cutS A1 B1 a.n 0 (a.xs.map en))) (rsd (a.xs.map en) (a.xs.map en)) (rsd (a.xs.map en) (cutS A2 B2 a.n 0 (a.xs.map en))) (rsd (a.xs.map en) (a.xs.map en)) (losS A0 B0 0 a.xs.length) (losS A1 B1 0 a.xs.length) (losS A2 B2 0 a.xs.length) (emp_f (by omega)) (mx_f (by omega)) (emp_f (by rw [cutS_len]; omega)) (mx_f (by rw [cutS_len]; omega)) (emp_f (by omega)) (mx_f (by omega)) (emp_f (by rw [cutS_len]; omega)) (mx_f (by rw [cutS_len]; omega)) (emp_f (by omega)) (mx_f (by omega)) (emp_f (by rw [cutS_len]; omega)) (mx_f (by rw [cutS_len]; omega)) (emp_f (by omega)) (mx_f (by omega)) (emp_f (by rw [losS_len]; omega)) (mx_f (by rw [losS_len]; omega)) (emp_f (by rw [losS_len]; omega)) (mx_f (by rw [losS_len]; omega)) (emp_f (by rw [losS_len]; omega)) (mx_f (by rw [losS_len]; omega)) e182 e172 e27 e292 e192 D89 hx (fun r hr => by
    simp only [List.mem_cons, List.not_mem_nil, or_false] at hr
    rcases hr with rfl | rfl | rfl | rfl | rfl | rfl | rfl <;> (simp only [rsd, List.length_zipWith, cutS_len, hbl]; omega)) h16
theorem c11 (h16 : (lim FaT.T).call 16 [] [] 0 [] = some (.bool true, [], 0, [])) (a : Ar) : (lim FaU.T).call 11 [.sl a.b 1 (a.xs.map exV), .sl a.b1 2 (a.L.map pxV), .int .u8 (a.n.val : Int)] [] 0 [] = some (.bool true, [], 0, []) := by
  have d16 : den FaT.T 16 [] = some (.bool true) := den_of (by kernel_rfl) (by kernel_rfl) (fn := Tryz.f16) (by kernel_rfl) h16
  by_cases h : 1 ≤ a.xs.length ∧ a.xs.length ≤ 4 ∧ a.L.length ≤ 3
  · obtain ⟨h1, hx, hl⟩ := h
    refine c11of a hx h1 hl ?_
    match hL : a.L, hl with
    | [], _ => exact made0 a hx h1 hL d16
    | [(A0, B0)], _ => exact made1 a hx h1 A0 B0 hL d16
    | [(A0, B0), (A1, B1)], _ => exact made2 a hx h1 A0 B0 A1 B1 hL d16
    | [(A0, B0), (A1, B1), (A2, B2)], _ => exact made3 a hx h1 A0 B0 A1 B1 A2 B2 hL d16
    | _ :: _ :: _ :: _ :: r, h => simp at h
  · exact c11aw a d16 h
end Go.Den.FaU
namespace Go.Proofs.YtifljcjddphpjaaGreatDoor
open Go Go.Proofs Go.Den Go.Den.FaT Go.ChangeShapes Go.WideShapes Go.ChangeAt Go.RowKit
theorem mk136 (v : V) : mk Tryz.prog 136 [v] = v := by unfold mk; rw [Tryz.underlying136]; rfl
theorem mk5 (v : V) : mk Tryz.prog 5 [v] = v := by unfold mk; rw [Tryz.underlying5]; rfl
theorem mk134 (v : V) : mk Tryz.prog 134 [v] = v := by unfold mk; rw [Tryz.underlying134]; rfl
theorem mk135 (v : V) : mk Tryz.prog 135 [v] = v := by unfold mk; rw [Tryz.underlying135]; rfl
theorem mk137 (us : List V) : mk Tryz.prog 137 us = .agg us := by unfold mk; rw [Tryz.underlying137]
theorem cl136 {n : Nat} {us : List V} (h : Cl Tryz.prog n 136 us) : ∃ a : FaU.F16, mk Tryz.prog 136 us = FaU.exV a := by
  cases n with
  | zero => cases h
  | succ n =>
    unfold Cl at h
    rw [Tryz.underlying136] at h
    obtain ⟨i, rfl, hw⟩ := h
    have h3 : 0 ≤ i ∧ i ≤ 65535 := by simpa [Lit.wf, IntKind.min, IntKind.max, IntKind.signed, IntKind.bits] using hw
    refine ⟨⟨i.toNat, by omega⟩, ?_⟩
    rw [mk136]
    simp only [FaU.exV]
    rw [Int.toNat_of_nonneg h3.1]
theorem cl5 {n : Nat} {us : List V} (h : Cl Tryz.prog n 5 us) : ∃ a : FaU.F8, us = [.int .u8 (a.val : Int)] := by
  cases n with
  | zero => cases h
  | succ n =>
    unfold Cl at h
    rw [Tryz.underlying5] at h
    obtain ⟨i, rfl, hw⟩ := h
    have h3 : 0 ≤ i ∧ i ≤ 255 := by simpa [Lit.wf, IntKind.min, IntKind.max, IntKind.signed, IntKind.bits] using hw
    refine ⟨⟨i.toNat, by omega⟩, ?_⟩
    simp only
    rw [Int.toNat_of_nonneg h3.1]
theorem cl137 {n : Nat} {us : List V} (h : Cl Tryz.prog n 137 us) : ∃ a : FaU.F8 × FaU.F8, mk Tryz.prog 137 us = FaU.pxV a := by
  cases n with
  | zero => cases h
  | succ n =>
    unfold Cl at h
    rw [Tryz.underlying137] at h
    obtain ⟨ps, rfl, hl, hp⟩ := h
    match ps, hl with
    | [p, q], _ =>
      obtain ⟨x, rfl⟩ := cl5 (hp p (by simp))
      obtain ⟨y, rfl⟩ := cl5 (hp q (by simp))
      exact ⟨(x, y), by rw [mk137]; rfl⟩
theorem cl134 {n : Nat} {us : List V} (h : Cl Tryz.prog n 134 us) : ∃ b, ∃ l : List FaU.F16, mk Tryz.prog 134 us = .sl b 1 (l.map FaU.exV) := by
  cases n with
  | zero => cases h
  | succ n =>
    unfold Cl at h
    rw [Tryz.underlying134] at h
    obtain ⟨b, l, rfl, _, _, hl⟩ := h
    obtain ⟨ps, rfl⟩ := mapOf cl136 hl
    have : Tryz.prog.cellsOf 136 = 1 := by kernel_rfl
    exact ⟨b, ps, by rw [this, mk134]⟩
theorem cl135 {n : Nat} {us : List V} (h : Cl Tryz.prog n 135 us) : ∃ b, ∃ l : List (FaU.F8 × FaU.F8), mk Tryz.prog 135 us = .sl b 2 (l.map FaU.pxV) := by
  cases n with
  | zero => cases h
  | succ n =>
    unfold Cl at h
    rw [Tryz.underlying135] at h
    obtain ⟨b, l, rfl, _, _, hl⟩ := h
    obtain ⟨ps, rfl⟩ := mapOf cl137 hl
    have : Tryz.prog.cellsOf 137 = 2 := by kernel_rfl
    exact ⟨b, ps, by rw [this, mk135]⟩
theorem cl5m {n : Nat} {us : List V} (h : Cl Tryz.prog n 5 us) : ∃ a : FaU.F8, mk Tryz.prog 5 us = .int .u8 (a.val : Int) := by
  obtain ⟨a, rfl⟩ := cl5 h
  exact ⟨a, mk5 _⟩
end Go.Proofs.YtifljcjddphpjaaGreatDoor
end
