import Derived.Test.YtifljcjddphpjaaGreatDoorFaS0
import Derived.Test.YtifljcjddphpjaaGreatDoorZN
set_option linter.all false
namespace Go.Den.FaT
open Go Go.Proofs Go.Den
set_option linter.unusedVariables false
set_option linter.unusedSimpArgs false
set_option maxRecDepth 100000

theorem c115 (b : Bool) (e : Int) : (lim T).call 115 [.bool b, .int .i64 e] [] 0 [] = some (.int .i64 (cond b e 0), [], 0, []) := by
  rw [ent115]
  cases b
  · simp (maxSteps := 1000000) -implicitDefEqProofs only [go_sem, Nat.reduceAdd, Nat.reduceMul, Nat.reduceSub, Nat.reduceDiv, Nat.reduceMod, Nat.reduceLT, Nat.reduceLeDiff, Nat.reduceBEq, Nat.reduceBNe, Nat.reduceEqDiff, Nat.reduceShiftLeft, Nat.reduceShiftRight, Nat.reduceOr, Nat.reduceAnd, Nat.reducePow, Nat.reduceSucc, Int.reduceToNat, Int.reduceAdd, Int.reduceSub, Int.reduceMul, Int.reduceNeg, Int.reduceTMod, Int.reduceTDiv, Int.reduceDiv, Int.reduceMod, Int.reducePow, Int.reduceLT, Int.reduceLE, Int.reduceEq, Int.reduceBEq, Int.reduceBNe, Int.reduceNe, reduceIte, reduceCtorEq, Int.cast_ofNat_Int, implies_true, forall_const]
  · simp (maxSteps := 1000000) -implicitDefEqProofs only [go_sem, Nat.reduceAdd, Nat.reduceMul, Nat.reduceSub, Nat.reduceDiv, Nat.reduceMod, Nat.reduceLT, Nat.reduceLeDiff, Nat.reduceBEq, Nat.reduceBNe, Nat.reduceEqDiff, Nat.reduceShiftLeft, Nat.reduceShiftRight, Nat.reduceOr, Nat.reduceAnd, Nat.reducePow, Nat.reduceSucc, Int.reduceToNat, Int.reduceAdd, Int.reduceSub, Int.reduceMul, Int.reduceNeg, Int.reduceTMod, Int.reduceTDiv, Int.reduceDiv, Int.reduceMod, Int.reducePow, Int.reduceLT, Int.reduceLE, Int.reduceEq, Int.reduceBEq, Int.reduceBNe, Int.reduceNe, reduceIte, reduceCtorEq, Int.cast_ofNat_Int, implies_true, forall_const]
theorem c39 (b : Bool) (e : Int) : (lim T).call 39 [.bool b, .int .i64 e] [] 0 [] = some (.int .i64 (cond b e 0), [], 0, []) := by
  rw [ent39]
  cases b
  · simp (maxSteps := 1000000) -implicitDefEqProofs only [go_sem, Nat.reduceAdd, Nat.reduceMul, Nat.reduceSub, Nat.reduceDiv, Nat.reduceMod, Nat.reduceLT, Nat.reduceLeDiff, Nat.reduceBEq, Nat.reduceBNe, Nat.reduceEqDiff, Nat.reduceShiftLeft, Nat.reduceShiftRight, Nat.reduceOr, Nat.reduceAnd, Nat.reducePow, Nat.reduceSucc, Int.reduceToNat, Int.reduceAdd, Int.reduceSub, Int.reduceMul, Int.reduceNeg, Int.reduceTMod, Int.reduceTDiv, Int.reduceDiv, Int.reduceMod, Int.reducePow, Int.reduceLT, Int.reduceLE, Int.reduceEq, Int.reduceBEq, Int.reduceBNe, Int.reduceNe, reduceIte, reduceCtorEq, Int.cast_ofNat_Int, implies_true, forall_const]
  · simp (maxSteps := 1000000) -implicitDefEqProofs only [go_sem, Nat.reduceAdd, Nat.reduceMul, Nat.reduceSub, Nat.reduceDiv, Nat.reduceMod, Nat.reduceLT, Nat.reduceLeDiff, Nat.reduceBEq, Nat.reduceBNe, Nat.reduceEqDiff, Nat.reduceShiftLeft, Nat.reduceShiftRight, Nat.reduceOr, Nat.reduceAnd, Nat.reducePow, Nat.reduceSucc, Int.reduceToNat, Int.reduceAdd, Int.reduceSub, Int.reduceMul, Int.reduceNeg, Int.reduceTMod, Int.reduceTDiv, Int.reduceDiv, Int.reduceMod, Int.reducePow, Int.reduceLT, Int.reduceLE, Int.reduceEq, Int.reduceBEq, Int.reduceBNe, Int.reduceNe, reduceIte, reduceCtorEq, Int.cast_ofNat_Int, implies_true, forall_const]
theorem c137 (n a b : Int) : (lim T).call 137 [.int .i64 n, .int .i64 a, .int .i64 b] [] 0 [] = some (.int .i64 (rng n a b), [], 0, []) := by
  rw [ent137]
  cases h : decide (n < a)
  · simp (maxSteps := 1000000) -implicitDefEqProofs only [go_sem, Nat.reduceAdd, Nat.reduceMul, Nat.reduceSub, Nat.reduceDiv, Nat.reduceMod, Nat.reduceLT, Nat.reduceLeDiff, Nat.reduceBEq, Nat.reduceBNe, Nat.reduceEqDiff, Nat.reduceShiftLeft, Nat.reduceShiftRight, Nat.reduceOr, Nat.reduceAnd, Nat.reducePow, Nat.reduceSucc, Int.reduceToNat, Int.reduceAdd, Int.reduceSub, Int.reduceMul, Int.reduceNeg, Int.reduceTMod, Int.reduceTDiv, Int.reduceDiv, Int.reduceMod, Int.reducePow, Int.reduceLT, Int.reduceLE, Int.reduceEq, Int.reduceBEq, Int.reduceBNe, Int.reduceNe, reduceIte, reduceCtorEq, Int.cast_ofNat_Int, implies_true, forall_const, h, c115, rng]
  · simp (maxSteps := 1000000) -implicitDefEqProofs only [go_sem, Nat.reduceAdd, Nat.reduceMul, Nat.reduceSub, Nat.reduceDiv, Nat.reduceMod, Nat.reduceLT, Nat.reduceLeDiff, Nat.reduceBEq, Nat.reduceBNe, Nat.reduceEqDiff, Nat.reduceShiftLeft, Nat.reduceShiftRight, Nat.reduceOr, Nat.reduceAnd, Nat.reducePow, Nat.reduceSucc, Int.reduceToNat, Int.reduceAdd, Int.reduceSub, Int.reduceMul, Int.reduceNeg, Int.reduceTMod, Int.reduceTDiv, Int.reduceDiv, Int.reduceMod, Int.reducePow, Int.reduceLT, Int.reduceLE, Int.reduceEq, Int.reduceBEq, Int.reduceBNe, Int.reduceNe, reduceIte, reduceCtorEq, Int.cast_ofNat_Int, implies_true, forall_const, h, c115, rng]
theorem c90 (n a b : Int) : (lim T).call 90 [.int .i64 n, .int .i64 a, .int .i64 b] [] 0 [] = some (.int .i64 (rng n a b), [], 0, []) := by
  rw [ent90]
  cases h : decide (n < a)
  · simp (maxSteps := 1000000) -implicitDefEqProofs only [go_sem, Nat.reduceAdd, Nat.reduceMul, Nat.reduceSub, Nat.reduceDiv, Nat.reduceMod, Nat.reduceLT, Nat.reduceLeDiff, Nat.reduceBEq, Nat.reduceBNe, Nat.reduceEqDiff, Nat.reduceShiftLeft, Nat.reduceShiftRight, Nat.reduceOr, Nat.reduceAnd, Nat.reducePow, Nat.reduceSucc, Int.reduceToNat, Int.reduceAdd, Int.reduceSub, Int.reduceMul, Int.reduceNeg, Int.reduceTMod, Int.reduceTDiv, Int.reduceDiv, Int.reduceMod, Int.reducePow, Int.reduceLT, Int.reduceLE, Int.reduceEq, Int.reduceBEq, Int.reduceBNe, Int.reduceNe, reduceIte, reduceCtorEq, Int.cast_ofNat_Int, implies_true, forall_const, h, c39, rng]
  · simp (maxSteps := 1000000) -implicitDefEqProofs only [go_sem, Nat.reduceAdd, Nat.reduceMul, Nat.reduceSub, Nat.reduceDiv, Nat.reduceMod, Nat.reduceLT, Nat.reduceLeDiff, Nat.reduceBEq, Nat.reduceBNe, Nat.reduceEqDiff, Nat.reduceShiftLeft, Nat.reduceShiftRight, Nat.reduceOr, Nat.reduceAnd, Nat.reducePow, Nat.reduceSucc, Int.reduceToNat, Int.reduceAdd, Int.reduceSub, Int.reduceMul, Int.reduceNeg, Int.reduceTMod, Int.reduceTDiv, Int.reduceDiv, Int.reduceMod, Int.reducePow, Int.reduceLT, Int.reduceLE, Int.reduceEq, Int.reduceBEq, Int.reduceBNe, Int.reduceNe, reduceIte, reduceCtorEq, Int.cast_ofNat_Int, implies_true, forall_const, h, c39, rng]

theorem loop114 (b : Bool) (l : List Int) (hb : l.length < 4611686018427387904) : ∀ i, i ≤ l.length → (lim T).loop false [.code (.loop b114_0), .inBlock 0, .code (.seq r114_7 .ret)] ⟨114, 15, 0, [(5, .sl b 1 (l.map fun n => .int .i64 n)), (6, .int .i64 l.length), (7, .int .i64 i)], [], 0, []⟩ = some (.ret (.int .i64 (fnz (l.drop i))), [], 0, []) := by
  refine down_ind l.length ?_ fun i hi ih => ?_
  · rw [loopEq]
    have h1 := idx_out l.length
    simp (maxSteps := 1000000) -implicitDefEqProofs only [go_sem, Nat.reduceAdd, Nat.reduceMul, Nat.reduceSub, Nat.reduceDiv, Nat.reduceMod, Nat.reduceLT, Nat.reduceLeDiff, Nat.reduceBEq, Nat.reduceBNe, Nat.reduceEqDiff, Nat.reduceShiftLeft, Nat.reduceShiftRight, Nat.reduceOr, Nat.reduceAnd, Nat.reducePow, Nat.reduceSucc, Int.reduceToNat, Int.reduceAdd, Int.reduceSub, Int.reduceMul, Int.reduceNeg, Int.reduceTMod, Int.reduceTDiv, Int.reduceDiv, Int.reduceMod, Int.reducePow, Int.reduceLT, Int.reduceLE, Int.reduceEq, Int.reduceBEq, Int.reduceBNe, Int.reduceNe, reduceIte, reduceCtorEq, Int.cast_ofNat_Int, implies_true, forall_const, h1]
    simp [fnz]
  · obtain ⟨h1, h2, h3, h4, h5⟩ := idx_in hi hb
    rw [loopEq, h5]
    cases h6 : (l[i] != 0)
    · have h7 : l[i] = 0 := by simpa using h6
      simp (maxSteps := 1000000) -implicitDefEqProofs only [go_sem, Nat.reduceAdd, Nat.reduceMul, Nat.reduceSub, Nat.reduceDiv, Nat.reduceMod, Nat.reduceLT, Nat.reduceLeDiff, Nat.reduceBEq, Nat.reduceBNe, Nat.reduceEqDiff, Nat.reduceShiftLeft, Nat.reduceShiftRight, Nat.reduceOr, Nat.reduceAnd, Nat.reducePow, Nat.reduceSucc, Int.reduceToNat, Int.reduceAdd, Int.reduceSub, Int.reduceMul, Int.reduceNeg, Int.reduceTMod, Int.reduceTDiv, Int.reduceDiv, Int.reduceMod, Int.reducePow, Int.reduceLT, Int.reduceLE, Int.reduceEq, Int.reduceBEq, Int.reduceBNe, Int.reduceNe, reduceIte, reduceCtorEq, Int.cast_ofNat_Int, implies_true, forall_const, h1, h2, h3, h4, h6, ih]
      simp [fnz, h7]
    · have h7 : l[i] ≠ 0 := by simpa using h6
      simp (maxSteps := 1000000) -implicitDefEqProofs only [go_sem, Nat.reduceAdd, Nat.reduceMul, Nat.reduceSub, Nat.reduceDiv, Nat.reduceMod, Nat.reduceLT, Nat.reduceLeDiff, Nat.reduceBEq, Nat.reduceBNe, Nat.reduceEqDiff, Nat.reduceShiftLeft, Nat.reduceShiftRight, Nat.reduceOr, Nat.reduceAnd, Nat.reducePow, Nat.reduceSucc, Int.reduceToNat, Int.reduceAdd, Int.reduceSub, Int.reduceMul, Int.reduceNeg, Int.reduceTMod, Int.reduceTDiv, Int.reduceDiv, Int.reduceMod, Int.reducePow, Int.reduceLT, Int.reduceLE, Int.reduceEq, Int.reduceBEq, Int.reduceBNe, Int.reduceNe, reduceIte, reduceCtorEq, Int.cast_ofNat_Int, implies_true, forall_const, h1, h2, h3, h4, h6]
      simp [fnz, h7]
theorem c114 (b : Bool) (l : List Int) (hb : l.length < 4611686018427387904) : (lim T).call 114 [.sl b 1 (l.map fun n => .int .i64 n)] [] 0 [] = some (.int .i64 (fnz l), [], 0, []) := by
  rw [ent114]
  have h := loop114 b l hb 0 (by omega)
  rw [show ((0 : Nat) : Int) = 0 from rfl, List.drop_zero] at h
  simp (maxSteps := 1000000) -implicitDefEqProofs only [go_sem, Nat.reduceAdd, Nat.reduceMul, Nat.reduceSub, Nat.reduceDiv, Nat.reduceMod, Nat.reduceLT, Nat.reduceLeDiff, Nat.reduceBEq, Nat.reduceBNe, Nat.reduceEqDiff, Nat.reduceShiftLeft, Nat.reduceShiftRight, Nat.reduceOr, Nat.reduceAnd, Nat.reducePow, Nat.reduceSucc, Int.reduceToNat, Int.reduceAdd, Int.reduceSub, Int.reduceMul, Int.reduceNeg, Int.reduceTMod, Int.reduceTDiv, Int.reduceDiv, Int.reduceMod, Int.reducePow, Int.reduceLT, Int.reduceLE, Int.reduceEq, Int.reduceBEq, Int.reduceBNe, Int.reduceNe, reduceIte, reduceCtorEq, Int.cast_ofNat_Int, implies_true, forall_const, h]

theorem loop108 (b : Bool) (l : List Int) (hb : l.length < 4611686018427387904) : ∀ i, i ≤ l.length → (lim T).loop false [.code (.loop b108_0), .inBlock 0, .code (.seq r108_6 .ret)] ⟨108, 19, 0, [(0, .sl b 1 (l.map fun n => .int .i64 n)), (3, .int .i64 i)], [], 0, []⟩ = some (.ret (.int .i64 (fnz (l.drop i))), [], 0, []) := by
  refine down_ind l.length ?_ fun i hi ih => ?_
  · rw [loopEq]
    have h1 := idx_out l.length
    simp (maxSteps := 1000000) -implicitDefEqProofs only [go_sem, Nat.reduceAdd, Nat.reduceMul, Nat.reduceSub, Nat.reduceDiv, Nat.reduceMod, Nat.reduceLT, Nat.reduceLeDiff, Nat.reduceBEq, Nat.reduceBNe, Nat.reduceEqDiff, Nat.reduceShiftLeft, Nat.reduceShiftRight, Nat.reduceOr, Nat.reduceAnd, Nat.reducePow, Nat.reduceSucc, Int.reduceToNat, Int.reduceAdd, Int.reduceSub, Int.reduceMul, Int.reduceNeg, Int.reduceTMod, Int.reduceTDiv, Int.reduceDiv, Int.reduceMod, Int.reducePow, Int.reduceLT, Int.reduceLE, Int.reduceEq, Int.reduceBEq, Int.reduceBNe, Int.reduceNe, reduceIte, reduceCtorEq, Int.cast_ofNat_Int, implies_true, forall_const, h1]
    simp [fnz]
  · obtain ⟨h1, h2, h3, h4, h5⟩ := idx_in hi hb
    rw [loopEq, h5]
    cases h6 : (l[i] != 0)
    · have h7 : l[i] = 0 := by simpa using h6
      simp (maxSteps := 1000000) -implicitDefEqProofs only [go_sem, Nat.reduceAdd, Nat.reduceMul, Nat.reduceSub, Nat.reduceDiv, Nat.reduceMod, Nat.reduceLT, Nat.reduceLeDiff, Nat.reduceBEq, Nat.reduceBNe, Nat.reduceEqDiff, Nat.reduceShiftLeft, Nat.reduceShiftRight, Nat.reduceOr, Nat.reduceAnd, Nat.reducePow, Nat.reduceSucc, Int.reduceToNat, Int.reduceAdd, Int.reduceSub, Int.reduceMul, Int.reduceNeg, Int.reduceTMod, Int.reduceTDiv, Int.reduceDiv, Int.reduceMod, Int.reducePow, Int.reduceLT, Int.reduceLE, Int.reduceEq, Int.reduceBEq, Int.reduceBNe, Int.reduceNe, reduceIte, reduceCtorEq, Int.cast_ofNat_Int, implies_true, forall_const, h1, h2, h3, h4, h6, ih]
      simp [fnz, h7]
    · have h7 : l[i] ≠ 0 := by simpa using h6
      simp (maxSteps := 1000000) -implicitDefEqProofs only [go_sem, Nat.reduceAdd, Nat.reduceMul, Nat.reduceSub, Nat.reduceDiv, Nat.reduceMod, Nat.reduceLT, Nat.reduceLeDiff, Nat.reduceBEq, Nat.reduceBNe, Nat.reduceEqDiff, Nat.reduceShiftLeft, Nat.reduceShiftRight, Nat.reduceOr, Nat.reduceAnd, Nat.reducePow, Nat.reduceSucc, Int.reduceToNat, Int.reduceAdd, Int.reduceSub, Int.reduceMul, Int.reduceNeg, Int.reduceTMod, Int.reduceTDiv, Int.reduceDiv, Int.reduceMod, Int.reducePow, Int.reduceLT, Int.reduceLE, Int.reduceEq, Int.reduceBEq, Int.reduceBNe, Int.reduceNe, reduceIte, reduceCtorEq, Int.cast_ofNat_Int, implies_true, forall_const, h1, h2, h3, h4, h6]
      simp [fnz, h7]
theorem c108 (b : Bool) (l : List Int) (hb : l.length < 4611686018427387904) : (lim T).call 108 [.sl b 1 (l.map fun n => .int .i64 n)] [] 0 [] = some (.int .i64 (fnz l), [], 0, []) := by
  rw [ent108]
  have h := loop108 b l hb 0 (by omega)
  rw [show ((0 : Nat) : Int) = 0 from rfl, List.drop_zero] at h
  simp (maxSteps := 1000000) -implicitDefEqProofs only [go_sem, Nat.reduceAdd, Nat.reduceMul, Nat.reduceSub, Nat.reduceDiv, Nat.reduceMod, Nat.reduceLT, Nat.reduceLeDiff, Nat.reduceBEq, Nat.reduceBNe, Nat.reduceEqDiff, Nat.reduceShiftLeft, Nat.reduceShiftRight, Nat.reduceOr, Nat.reduceAnd, Nat.reducePow, Nat.reduceSucc, Int.reduceToNat, Int.reduceAdd, Int.reduceSub, Int.reduceMul, Int.reduceNeg, Int.reduceTMod, Int.reduceTDiv, Int.reduceDiv, Int.reduceMod, Int.reducePow, Int.reduceLT, Int.reduceLE, Int.reduceEq, Int.reduceBEq, Int.reduceBNe, Int.reduceNe, reduceIte, reduceCtorEq, Int.cast_ofNat_Int, implies_true, forall_const, h]
theorem c30 (b : Bool) (l : List Int) (hb : l.length < 4611686018427387904) : (lim T).call 30 [.sl b 1 (l.map fun n => .int .i64 n)] [] 0 [] = some (.int .i64 (fnz l), [], 0, []) := by
  rw [ent30]
  simp (maxSteps := 1000000) -implicitDefEqProofs only [go_sem, Nat.reduceAdd, Nat.reduceMul, Nat.reduceSub, Nat.reduceDiv, Nat.reduceMod, Nat.reduceLT, Nat.reduceLeDiff, Nat.reduceBEq, Nat.reduceBNe, Nat.reduceEqDiff, Nat.reduceShiftLeft, Nat.reduceShiftRight, Nat.reduceOr, Nat.reduceAnd, Nat.reducePow, Nat.reduceSucc, Int.reduceToNat, Int.reduceAdd, Int.reduceSub, Int.reduceMul, Int.reduceNeg, Int.reduceTMod, Int.reduceTDiv, Int.reduceDiv, Int.reduceMod, Int.reducePow, Int.reduceLT, Int.reduceLE, Int.reduceEq, Int.reduceBEq, Int.reduceBNe, Int.reduceNe, reduceIte, reduceCtorEq, Int.cast_ofNat_Int, implies_true, forall_const, c108 b l hb]
theorem c152 (a b c d : Int) : (lim T).call 152 [.agg [.int .i64 a, .int .i64 b], .agg [.int .i64 c, .int .i64 d]] [] 0 [] = some (.agg [.int .i64 (IntKind.i64.wrap (a + c)), .int .i64 (IntKind.i64.wrap (b + d))], [], 0, []) := by
  rw [ent152]
  simp (maxSteps := 1000000) -implicitDefEqProofs only [go_sem, Nat.reduceAdd, Nat.reduceMul, Nat.reduceSub, Nat.reduceDiv, Nat.reduceMod, Nat.reduceLT, Nat.reduceLeDiff, Nat.reduceBEq, Nat.reduceBNe, Nat.reduceEqDiff, Nat.reduceShiftLeft, Nat.reduceShiftRight, Nat.reduceOr, Nat.reduceAnd, Nat.reducePow, Nat.reduceSucc, Int.reduceToNat, Int.reduceAdd, Int.reduceSub, Int.reduceMul, Int.reduceNeg, Int.reduceTMod, Int.reduceTDiv, Int.reduceDiv, Int.reduceMod, Int.reducePow, Int.reduceLT, Int.reduceLE, Int.reduceEq, Int.reduceBEq, Int.reduceBNe, Int.reduceNe, reduceIte, reduceCtorEq, Int.cast_ofNat_Int, implies_true, forall_const]
theorem c163 (a b c d : Int) : (lim T).call 163 [.agg [.int .i64 a, .int .i64 b], .agg [.int .i64 c, .int .i64 d]] [] 0 [] = some (.agg [.int .i64 (IntKind.i64.wrap (a - c)), .int .i64 (IntKind.i64.wrap (b - d))], [], 0, []) := by
  rw [ent163]
  simp (maxSteps := 1000000) -implicitDefEqProofs only [go_sem, Nat.reduceAdd, Nat.reduceMul, Nat.reduceSub, Nat.reduceDiv, Nat.reduceMod, Nat.reduceLT, Nat.reduceLeDiff, Nat.reduceBEq, Nat.reduceBNe, Nat.reduceEqDiff, Nat.reduceShiftLeft, Nat.reduceShiftRight, Nat.reduceOr, Nat.reduceAnd, Nat.reducePow, Nat.reduceSucc, Int.reduceToNat, Int.reduceAdd, Int.reduceSub, Int.reduceMul, Int.reduceNeg, Int.reduceTMod, Int.reduceTDiv, Int.reduceDiv, Int.reduceMod, Int.reducePow, Int.reduceLT, Int.reduceLE, Int.reduceEq, Int.reduceBEq, Int.reduceBNe, Int.reduceNe, reduceIte, reduceCtorEq, Int.cast_ofNat_Int, implies_true, forall_const]
theorem c327 (a b : Int) : (lim T).call 327 [.agg [.int .i64 a, .int .i64 b]] [] 0 [] = some (.agg [.int .i64 a, .int .i64 b], [], 0, []) := by
  rw [ent327]
  simp (maxSteps := 1000000) -implicitDefEqProofs only [go_sem, Nat.reduceAdd, Nat.reduceMul, Nat.reduceSub, Nat.reduceDiv, Nat.reduceMod, Nat.reduceLT, Nat.reduceLeDiff, Nat.reduceBEq, Nat.reduceBNe, Nat.reduceEqDiff, Nat.reduceShiftLeft, Nat.reduceShiftRight, Nat.reduceOr, Nat.reduceAnd, Nat.reducePow, Nat.reduceSucc, Int.reduceToNat, Int.reduceAdd, Int.reduceSub, Int.reduceMul, Int.reduceNeg, Int.reduceTMod, Int.reduceTDiv, Int.reduceDiv, Int.reduceMod, Int.reducePow, Int.reduceLT, Int.reduceLE, Int.reduceEq, Int.reduceBEq, Int.reduceBNe, Int.reduceNe, reduceIte, reduceCtorEq, Int.cast_ofNat_Int, implies_true, forall_const]
theorem c328 (a b : Int) : (lim T).call 328 [.agg [.int .i64 a, .int .i64 b]] [] 0 [] = some (.agg [.int .i64 (IntKind.i64.wrap (0 - b)), .int .i64 a], [], 0, []) := by
  rw [ent328]
  simp (maxSteps := 1000000) -implicitDefEqProofs only [go_sem, Nat.reduceAdd, Nat.reduceMul, Nat.reduceSub, Nat.reduceDiv, Nat.reduceMod, Nat.reduceLT, Nat.reduceLeDiff, Nat.reduceBEq, Nat.reduceBNe, Nat.reduceEqDiff, Nat.reduceShiftLeft, Nat.reduceShiftRight, Nat.reduceOr, Nat.reduceAnd, Nat.reducePow, Nat.reduceSucc, Int.reduceToNat, Int.reduceAdd, Int.reduceSub, Int.reduceMul, Int.reduceNeg, Int.reduceTMod, Int.reduceTDiv, Int.reduceDiv, Int.reduceMod, Int.reducePow, Int.reduceLT, Int.reduceLE, Int.reduceEq, Int.reduceBEq, Int.reduceBNe, Int.reduceNe, reduceIte, reduceCtorEq, Int.cast_ofNat_Int, implies_true, forall_const]

theorem c329 (a b : Int) : (lim T).call 329 [.agg [.int .i64 a, .int .i64 b]] [] 0 [] = some (.agg [.int .i64 (IntKind.i64.wrap (0 - a)), .int .i64 (IntKind.i64.wrap (0 - b))], [], 0, []) := by
  rw [ent329]
  simp (maxSteps := 1000000) -implicitDefEqProofs only [go_sem, Nat.reduceAdd, Nat.reduceMul, Nat.reduceSub, Nat.reduceDiv, Nat.reduceMod, Nat.reduceLT, Nat.reduceLeDiff, Nat.reduceBEq, Nat.reduceBNe, Nat.reduceEqDiff, Nat.reduceShiftLeft, Nat.reduceShiftRight, Nat.reduceOr, Nat.reduceAnd, Nat.reducePow, Nat.reduceSucc, Int.reduceToNat, Int.reduceAdd, Int.reduceSub, Int.reduceMul, Int.reduceNeg, Int.reduceTMod, Int.reduceTDiv, Int.reduceDiv, Int.reduceMod, Int.reducePow, Int.reduceLT, Int.reduceLE, Int.reduceEq, Int.reduceBEq, Int.reduceBNe, Int.reduceNe, reduceIte, reduceCtorEq, Int.cast_ofNat_Int, implies_true, forall_const]
theorem c330 (a b : Int) : (lim T).call 330 [.agg [.int .i64 a, .int .i64 b]] [] 0 [] = some (.agg [.int .i64 b, .int .i64 (IntKind.i64.wrap (0 - a))], [], 0, []) := by
  rw [ent330]
  simp (maxSteps := 1000000) -implicitDefEqProofs only [go_sem, Nat.reduceAdd, Nat.reduceMul, Nat.reduceSub, Nat.reduceDiv, Nat.reduceMod, Nat.reduceLT, Nat.reduceLeDiff, Nat.reduceBEq, Nat.reduceBNe, Nat.reduceEqDiff, Nat.reduceShiftLeft, Nat.reduceShiftRight, Nat.reduceOr, Nat.reduceAnd, Nat.reducePow, Nat.reduceSucc, Int.reduceToNat, Int.reduceAdd, Int.reduceSub, Int.reduceMul, Int.reduceNeg, Int.reduceTMod, Int.reduceTDiv, Int.reduceDiv, Int.reduceMod, Int.reducePow, Int.reduceLT, Int.reduceLE, Int.reduceEq, Int.reduceBEq, Int.reduceBNe, Int.reduceNe, reduceIte, reduceCtorEq, Int.cast_ofNat_Int, implies_true, forall_const]
theorem c114_2 (b : Bool) (x y : Int) : (lim T).call 114 [.sl b 1 [.int .i64 x, .int .i64 y]] [] 0 [] = some (.int .i64 (fnz [x, y]), [], 0, []) := c114 b [x, y] (by simp)
theorem c114_4 (b : Bool) (x y z u : Int) : (lim T).call 114 [.sl b 1 [.int .i64 x, .int .i64 y, .int .i64 z, .int .i64 u]] [] 0 [] = some (.int .i64 (fnz [x, y, z, u]), [], 0, []) := c114 b [x, y, z, u] (by simp)
theorem c108_2 (b : Bool) (x y : Int) : (lim T).call 108 [.sl b 1 [.int .i64 x, .int .i64 y]] [] 0 [] = some (.int .i64 (fnz [x, y]), [], 0, []) := c108 b [x, y] (by simp)
theorem c108_5 (b : Bool) (x y z u v : Int) : (lim T).call 108 [.sl b 1 [.int .i64 x, .int .i64 y, .int .i64 z, .int .i64 u, .int .i64 v]] [] 0 [] = some (.int .i64 (fnz [x, y, z, u, v]), [], 0, []) := c108 b [x, y, z, u, v] (by simp)
theorem c30_2 (b : Bool) (x y : Int) : (lim T).call 30 [.sl b 1 [.int .i64 x, .int .i64 y]] [] 0 [] = some (.int .i64 (fnz [x, y]), [], 0, []) := c30 b [x, y] (by simp)
theorem c161 (x y : Int) : (lim T).call 161 [.agg [.int .i64 x, .int .i64 y]] [] 0 [] = some (.int .i64 (ckP x y), [], 0, []) := by
  rw [ent161]
  simp (maxSteps := 1000000) -implicitDefEqProofs only [go_sem, Nat.reduceAdd, Nat.reduceMul, Nat.reduceSub, Nat.reduceDiv, Nat.reduceMod, Nat.reduceLT, Nat.reduceLeDiff, Nat.reduceBEq, Nat.reduceBNe, Nat.reduceEqDiff, Nat.reduceShiftLeft, Nat.reduceShiftRight, Nat.reduceOr, Nat.reduceAnd, Nat.reducePow, Nat.reduceSucc, Int.reduceToNat, Int.reduceAdd, Int.reduceSub, Int.reduceMul, Int.reduceNeg, Int.reduceTMod, Int.reduceTDiv, Int.reduceDiv, Int.reduceMod, Int.reducePow, Int.reduceLT, Int.reduceLE, Int.reduceEq, Int.reduceBEq, Int.reduceBNe, Int.reduceNe, reduceIte, reduceCtorEq, Int.cast_ofNat_Int, implies_true, forall_const, c137, c114_2, ckP]
theorem c70 (x y : Int) : (lim T).call 70 [.agg [.int .i64 x, .int .i64 y]] [] 0 [] = some (.int .i64 (ckP x y), [], 0, []) := by
  rw [ent70]
  simp (maxSteps := 1000000) -implicitDefEqProofs only [go_sem, Nat.reduceAdd, Nat.reduceMul, Nat.reduceSub, Nat.reduceDiv, Nat.reduceMod, Nat.reduceLT, Nat.reduceLeDiff, Nat.reduceBEq, Nat.reduceBNe, Nat.reduceEqDiff, Nat.reduceShiftLeft, Nat.reduceShiftRight, Nat.reduceOr, Nat.reduceAnd, Nat.reducePow, Nat.reduceSucc, Int.reduceToNat, Int.reduceAdd, Int.reduceSub, Int.reduceMul, Int.reduceNeg, Int.reduceTMod, Int.reduceTDiv, Int.reduceDiv, Int.reduceMod, Int.reducePow, Int.reduceLT, Int.reduceLE, Int.reduceEq, Int.reduceBEq, Int.reduceBNe, Int.reduceNe, reduceIte, reduceCtorEq, Int.cast_ofNat_Int, implies_true, forall_const, c90, c108_2, ckP]
theorem c160 (n x y : Int) : (lim T).call 160 [.agg [.int .i64 n, .int .i64 x, .int .i64 y]] [] 0 [] = some (.int .i64 (ckF n x y), [], 0, []) := by
  rw [ent160]
  simp (maxSteps := 1000000) -implicitDefEqProofs only [go_sem, Nat.reduceAdd, Nat.reduceMul, Nat.reduceSub, Nat.reduceDiv, Nat.reduceMod, Nat.reduceLT, Nat.reduceLeDiff, Nat.reduceBEq, Nat.reduceBNe, Nat.reduceEqDiff, Nat.reduceShiftLeft, Nat.reduceShiftRight, Nat.reduceOr, Nat.reduceAnd, Nat.reducePow, Nat.reduceSucc, Int.reduceToNat, Int.reduceAdd, Int.reduceSub, Int.reduceMul, Int.reduceNeg, Int.reduceTMod, Int.reduceTDiv, Int.reduceDiv, Int.reduceMod, Int.reducePow, Int.reduceLT, Int.reduceLE, Int.reduceEq, Int.reduceBEq, Int.reduceBNe, Int.reduceNe, reduceIte, reduceCtorEq, Int.cast_ofNat_Int, implies_true, forall_const, c137, c161, c114_2, ckF]
theorem c69 (n x y : Int) : (lim T).call 69 [.agg [.int .i64 n, .int .i64 x, .int .i64 y]] [] 0 [] = some (.int .i64 (ckF n x y), [], 0, []) := by
  rw [ent69]
  simp (maxSteps := 1000000) -implicitDefEqProofs only [go_sem, Nat.reduceAdd, Nat.reduceMul, Nat.reduceSub, Nat.reduceDiv, Nat.reduceMod, Nat.reduceLT, Nat.reduceLeDiff, Nat.reduceBEq, Nat.reduceBNe, Nat.reduceEqDiff, Nat.reduceShiftLeft, Nat.reduceShiftRight, Nat.reduceOr, Nat.reduceAnd, Nat.reducePow, Nat.reduceSucc, Int.reduceToNat, Int.reduceAdd, Int.reduceSub, Int.reduceMul, Int.reduceNeg, Int.reduceTMod, Int.reduceTDiv, Int.reduceDiv, Int.reduceMod, Int.reducePow, Int.reduceLT, Int.reduceLE, Int.reduceEq, Int.reduceBEq, Int.reduceBNe, Int.reduceNe, reduceIte, reduceCtorEq, Int.cast_ofNat_Int, implies_true, forall_const, c90, c70, c108_2, ckF]

/-- quarter turns -/
def trn (n x y : Int) : Int × Int := if n = 0 then (x, y) else if n = 1 then (IntKind.i64.wrap (0 - y), x) else if n = 2 then (IntKind.i64.wrap (0 - x), IntKind.i64.wrap (0 - y)) else (y, IntKind.i64.wrap (0 - x))
def carr (n sx sy x y : Int) : Int × Int := (IntKind.i64.wrap ((trn n x y).1 + sx), IntKind.i64.wrap ((trn n x y).2 + sy))
theorem c162 (n sx sy x y : Int) (h : 0 ≤ n ∧ n ≤ 3) : (lim T).call 162 [.agg [.int .i64 n, .int .i64 sx, .int .i64 sy], .agg [.int .i64 x, .int .i64 y]] [] 0 [] = some (.agg [.int .i64 (carr n sx sy x y).1, .int .i64 (carr n sx sy x y).2], [], 0, []) := by
  rw [ent162]
  have h : n = 0 ∨ n = 1 ∨ n = 2 ∨ n = 3 := by omega
  rcases h with rfl | rfl | rfl | rfl
  · simp (maxSteps := 1000000) -implicitDefEqProofs only [go_sem, Nat.reduceAdd, Nat.reduceMul, Nat.reduceSub, Nat.reduceDiv, Nat.reduceMod, Nat.reduceLT, Nat.reduceLeDiff, Nat.reduceBEq, Nat.reduceBNe, Nat.reduceEqDiff, Nat.reduceShiftLeft, Nat.reduceShiftRight, Nat.reduceOr, Nat.reduceAnd, Nat.reducePow, Nat.reduceSucc, Int.reduceToNat, Int.reduceAdd, Int.reduceSub, Int.reduceMul, Int.reduceNeg, Int.reduceTMod, Int.reduceTDiv, Int.reduceDiv, Int.reduceMod, Int.reducePow, Int.reduceLT, Int.reduceLE, Int.reduceEq, Int.reduceBEq, Int.reduceBNe, Int.reduceNe, reduceIte, reduceCtorEq, Int.cast_ofNat_Int, implies_true, forall_const, c152, c327]
    simp [carr, trn]
  · simp (maxSteps := 1000000) -implicitDefEqProofs only [go_sem, Nat.reduceAdd, Nat.reduceMul, Nat.reduceSub, Nat.reduceDiv, Nat.reduceMod, Nat.reduceLT, Nat.reduceLeDiff, Nat.reduceBEq, Nat.reduceBNe, Nat.reduceEqDiff, Nat.reduceShiftLeft, Nat.reduceShiftRight, Nat.reduceOr, Nat.reduceAnd, Nat.reducePow, Nat.reduceSucc, Int.reduceToNat, Int.reduceAdd, Int.reduceSub, Int.reduceMul, Int.reduceNeg, Int.reduceTMod, Int.reduceTDiv, Int.reduceDiv, Int.reduceMod, Int.reducePow, Int.reduceLT, Int.reduceLE, Int.reduceEq, Int.reduceBEq, Int.reduceBNe, Int.reduceNe, reduceIte, reduceCtorEq, Int.cast_ofNat_Int, implies_true, forall_const, c152, c328]
    simp [carr, trn]
  · simp (maxSteps := 1000000) -implicitDefEqProofs only [go_sem, Nat.reduceAdd, Nat.reduceMul, Nat.reduceSub, Nat.reduceDiv, Nat.reduceMod, Nat.reduceLT, Nat.reduceLeDiff, Nat.reduceBEq, Nat.reduceBNe, Nat.reduceEqDiff, Nat.reduceShiftLeft, Nat.reduceShiftRight, Nat.reduceOr, Nat.reduceAnd, Nat.reducePow, Nat.reduceSucc, Int.reduceToNat, Int.reduceAdd, Int.reduceSub, Int.reduceMul, Int.reduceNeg, Int.reduceTMod, Int.reduceTDiv, Int.reduceDiv, Int.reduceMod, Int.reducePow, Int.reduceLT, Int.reduceLE, Int.reduceEq, Int.reduceBEq, Int.reduceBNe, Int.reduceNe, reduceIte, reduceCtorEq, Int.cast_ofNat_Int, implies_true, forall_const, c152, c329]
    simp [carr, trn]
  · simp (maxSteps := 1000000) -implicitDefEqProofs only [go_sem, Nat.reduceAdd, Nat.reduceMul, Nat.reduceSub, Nat.reduceDiv, Nat.reduceMod, Nat.reduceLT, Nat.reduceLeDiff, Nat.reduceBEq, Nat.reduceBNe, Nat.reduceEqDiff, Nat.reduceShiftLeft, Nat.reduceShiftRight, Nat.reduceOr, Nat.reduceAnd, Nat.reducePow, Nat.reduceSucc, Int.reduceToNat, Int.reduceAdd, Int.reduceSub, Int.reduceMul, Int.reduceNeg, Int.reduceTMod, Int.reduceTDiv, Int.reduceDiv, Int.reduceMod, Int.reducePow, Int.reduceLT, Int.reduceLE, Int.reduceEq, Int.reduceBEq, Int.reduceBNe, Int.reduceNe, reduceIte, reduceCtorEq, Int.cast_ofNat_Int, implies_true, forall_const, c152, c330]
    simp [carr, trn]
/-- quarter turns, one after another -/
def rot : Nat → Int × Int → Int × Int
  | 0, p => p
  | n + 1, p => rot n (IntKind.i64.wrap (0 - p.2), p.1)
theorem c164 (n : Int) (x y : Int) (h : 0 ≤ n ∧ n ≤ 4) : (lim T).call 164 [.agg [.int .i64 x, .int .i64 y], .int .i64 n] [] 0 [] = some (.agg [.int .i64 (rot n.toNat (x, y)).1, .int .i64 (rot n.toNat (x, y)).2], [], 0, []) := by
  rw [ent164]
  have h : n = 0 ∨ n = 1 ∨ n = 2 ∨ n = 3 ∨ n = 4 := by omega
  rcases h with rfl | rfl | rfl | rfl | rfl
  · simp (maxSteps := 1000000) -implicitDefEqProofs only [go_sem, Nat.reduceAdd, Nat.reduceMul, Nat.reduceSub, Nat.reduceDiv, Nat.reduceMod, Nat.reduceLT, Nat.reduceLeDiff, Nat.reduceBEq, Nat.reduceBNe, Nat.reduceEqDiff, Nat.reduceShiftLeft, Nat.reduceShiftRight, Nat.reduceOr, Nat.reduceAnd, Nat.reducePow, Nat.reduceSucc, Int.reduceToNat, Int.reduceAdd, Int.reduceSub, Int.reduceMul, Int.reduceNeg, Int.reduceTMod, Int.reduceTDiv, Int.reduceDiv, Int.reduceMod, Int.reducePow, Int.reduceLT, Int.reduceLE, Int.reduceEq, Int.reduceBEq, Int.reduceBNe, Int.reduceNe, reduceIte, reduceCtorEq, Int.cast_ofNat_Int, implies_true, forall_const, wrap64]
    rw [loopEq]
    simp (maxSteps := 1000000) -implicitDefEqProofs only [go_sem, Nat.reduceAdd, Nat.reduceMul, Nat.reduceSub, Nat.reduceDiv, Nat.reduceMod, Nat.reduceLT, Nat.reduceLeDiff, Nat.reduceBEq, Nat.reduceBNe, Nat.reduceEqDiff, Nat.reduceShiftLeft, Nat.reduceShiftRight, Nat.reduceOr, Nat.reduceAnd, Nat.reducePow, Nat.reduceSucc, Int.reduceToNat, Int.reduceAdd, Int.reduceSub, Int.reduceMul, Int.reduceNeg, Int.reduceTMod, Int.reduceTDiv, Int.reduceDiv, Int.reduceMod, Int.reducePow, Int.reduceLT, Int.reduceLE, Int.reduceEq, Int.reduceBEq, Int.reduceBNe, Int.reduceNe, reduceIte, reduceCtorEq, Int.cast_ofNat_Int, implies_true, forall_const, wrap64]
    simp [rot]
  · simp (maxSteps := 1000000) -implicitDefEqProofs only [go_sem, Nat.reduceAdd, Nat.reduceMul, Nat.reduceSub, Nat.reduceDiv, Nat.reduceMod, Nat.reduceLT, Nat.reduceLeDiff, Nat.reduceBEq, Nat.reduceBNe, Nat.reduceEqDiff, Nat.reduceShiftLeft, Nat.reduceShiftRight, Nat.reduceOr, Nat.reduceAnd, Nat.reducePow, Nat.reduceSucc, Int.reduceToNat, Int.reduceAdd, Int.reduceSub, Int.reduceMul, Int.reduceNeg, Int.reduceTMod, Int.reduceTDiv, Int.reduceDiv, Int.reduceMod, Int.reducePow, Int.reduceLT, Int.reduceLE, Int.reduceEq, Int.reduceBEq, Int.reduceBNe, Int.reduceNe, reduceIte, reduceCtorEq, Int.cast_ofNat_Int, implies_true, forall_const, wrap64]
    rw [loopEq]
    simp (maxSteps := 1000000) -implicitDefEqProofs only [go_sem, Nat.reduceAdd, Nat.reduceMul, Nat.reduceSub, Nat.reduceDiv, Nat.reduceMod, Nat.reduceLT, Nat.reduceLeDiff, Nat.reduceBEq, Nat.reduceBNe, Nat.reduceEqDiff, Nat.reduceShiftLeft, Nat.reduceShiftRight, Nat.reduceOr, Nat.reduceAnd, Nat.reducePow, Nat.reduceSucc, Int.reduceToNat, Int.reduceAdd, Int.reduceSub, Int.reduceMul, Int.reduceNeg, Int.reduceTMod, Int.reduceTDiv, Int.reduceDiv, Int.reduceMod, Int.reducePow, Int.reduceLT, Int.reduceLE, Int.reduceEq, Int.reduceBEq, Int.reduceBNe, Int.reduceNe, reduceIte, reduceCtorEq, Int.cast_ofNat_Int, implies_true, forall_const, wrap64]
    rw [loopEq]
    simp (maxSteps := 1000000) -implicitDefEqProofs only [go_sem, Nat.reduceAdd, Nat.reduceMul, Nat.reduceSub, Nat.reduceDiv, Nat.reduceMod, Nat.reduceLT, Nat.reduceLeDiff, Nat.reduceBEq, Nat.reduceBNe, Nat.reduceEqDiff, Nat.reduceShiftLeft, Nat.reduceShiftRight, Nat.reduceOr, Nat.reduceAnd, Nat.reducePow, Nat.reduceSucc, Int.reduceToNat, Int.reduceAdd, Int.reduceSub, Int.reduceMul, Int.reduceNeg, Int.reduceTMod, Int.reduceTDiv, Int.reduceDiv, Int.reduceMod, Int.reducePow, Int.reduceLT, Int.reduceLE, Int.reduceEq, Int.reduceBEq, Int.reduceBNe, Int.reduceNe, reduceIte, reduceCtorEq, Int.cast_ofNat_Int, implies_true, forall_const, wrap64]
    simp [rot]
  · simp (maxSteps := 1000000) -implicitDefEqProofs only [go_sem, Nat.reduceAdd, Nat.reduceMul, Nat.reduceSub, Nat.reduceDiv, Nat.reduceMod, Nat.reduceLT, Nat.reduceLeDiff, Nat.reduceBEq, Nat.reduceBNe, Nat.reduceEqDiff, Nat.reduceShiftLeft, Nat.reduceShiftRight, Nat.reduceOr, Nat.reduceAnd, Nat.reducePow, Nat.reduceSucc, Int.reduceToNat, Int.reduceAdd, Int.reduceSub, Int.reduceMul, Int.reduceNeg, Int.reduceTMod, Int.reduceTDiv, Int.reduceDiv, Int.reduceMod, Int.reducePow, Int.reduceLT, Int.reduceLE, Int.reduceEq, Int.reduceBEq, Int.reduceBNe, Int.reduceNe, reduceIte, reduceCtorEq, Int.cast_ofNat_Int, implies_true, forall_const, wrap64]
    rw [loopEq]
    simp (maxSteps := 1000000) -implicitDefEqProofs only [go_sem, Nat.reduceAdd, Nat.reduceMul, Nat.reduceSub, Nat.reduceDiv, Nat.reduceMod, Nat.reduceLT, Nat.reduceLeDiff, Nat.reduceBEq, Nat.reduceBNe, Nat.reduceEqDiff, Nat.reduceShiftLeft, Nat.reduceShiftRight, Nat.reduceOr, Nat.reduceAnd, Nat.reducePow, Nat.reduceSucc, Int.reduceToNat, Int.reduceAdd, Int.reduceSub, Int.reduceMul, Int.reduceNeg, Int.reduceTMod, Int.reduceTDiv, Int.reduceDiv, Int.reduceMod, Int.reducePow, Int.reduceLT, Int.reduceLE, Int.reduceEq, Int.reduceBEq, Int.reduceBNe, Int.reduceNe, reduceIte, reduceCtorEq, Int.cast_ofNat_Int, implies_true, forall_const, wrap64]
    rw [loopEq]
    simp (maxSteps := 1000000) -implicitDefEqProofs only [go_sem, Nat.reduceAdd, Nat.reduceMul, Nat.reduceSub, Nat.reduceDiv, Nat.reduceMod, Nat.reduceLT, Nat.reduceLeDiff, Nat.reduceBEq, Nat.reduceBNe, Nat.reduceEqDiff, Nat.reduceShiftLeft, Nat.reduceShiftRight, Nat.reduceOr, Nat.reduceAnd, Nat.reducePow, Nat.reduceSucc, Int.reduceToNat, Int.reduceAdd, Int.reduceSub, Int.reduceMul, Int.reduceNeg, Int.reduceTMod, Int.reduceTDiv, Int.reduceDiv, Int.reduceMod, Int.reducePow, Int.reduceLT, Int.reduceLE, Int.reduceEq, Int.reduceBEq, Int.reduceBNe, Int.reduceNe, reduceIte, reduceCtorEq, Int.cast_ofNat_Int, implies_true, forall_const, wrap64]
    rw [loopEq]
    simp (maxSteps := 1000000) -implicitDefEqProofs only [go_sem, Nat.reduceAdd, Nat.reduceMul, Nat.reduceSub, Nat.reduceDiv, Nat.reduceMod, Nat.reduceLT, Nat.reduceLeDiff, Nat.reduceBEq, Nat.reduceBNe, Nat.reduceEqDiff, Nat.reduceShiftLeft, Nat.reduceShiftRight, Nat.reduceOr, Nat.reduceAnd, Nat.reducePow, Nat.reduceSucc, Int.reduceToNat, Int.reduceAdd, Int.reduceSub, Int.reduceMul, Int.reduceNeg, Int.reduceTMod, Int.reduceTDiv, Int.reduceDiv, Int.reduceMod, Int.reducePow, Int.reduceLT, Int.reduceLE, Int.reduceEq, Int.reduceBEq, Int.reduceBNe, Int.reduceNe, reduceIte, reduceCtorEq, Int.cast_ofNat_Int, implies_true, forall_const, wrap64]
    simp [rot]
  · simp (maxSteps := 1000000) -implicitDefEqProofs only [go_sem, Nat.reduceAdd, Nat.reduceMul, Nat.reduceSub, Nat.reduceDiv, Nat.reduceMod, Nat.reduceLT, Nat.reduceLeDiff, Nat.reduceBEq, Nat.reduceBNe, Nat.reduceEqDiff, Nat.reduceShiftLeft, Nat.reduceShiftRight, Nat.reduceOr, Nat.reduceAnd, Nat.reducePow, Nat.reduceSucc, Int.reduceToNat, Int.reduceAdd, Int.reduceSub, Int.reduceMul, Int.reduceNeg, Int.reduceTMod, Int.reduceTDiv, Int.reduceDiv, Int.reduceMod, Int.reducePow, Int.reduceLT, Int.reduceLE, Int.reduceEq, Int.reduceBEq, Int.reduceBNe, Int.reduceNe, reduceIte, reduceCtorEq, Int.cast_ofNat_Int, implies_true, forall_const, wrap64]
    rw [loopEq]
    simp (maxSteps := 1000000) -implicitDefEqProofs only [go_sem, Nat.reduceAdd, Nat.reduceMul, Nat.reduceSub, Nat.reduceDiv, Nat.reduceMod, Nat.reduceLT, Nat.reduceLeDiff, Nat.reduceBEq, Nat.reduceBNe, Nat.reduceEqDiff, Nat.reduceShiftLeft, Nat.reduceShiftRight, Nat.reduceOr, Nat.reduceAnd, Nat.reducePow, Nat.reduceSucc, Int.reduceToNat, Int.reduceAdd, Int.reduceSub, Int.reduceMul, Int.reduceNeg, Int.reduceTMod, Int.reduceTDiv, Int.reduceDiv, Int.reduceMod, Int.reducePow, Int.reduceLT, Int.reduceLE, Int.reduceEq, Int.reduceBEq, Int.reduceBNe, Int.reduceNe, reduceIte, reduceCtorEq, Int.cast_ofNat_Int, implies_true, forall_const, wrap64]
    rw [loopEq]
    simp (maxSteps := 1000000) -implicitDefEqProofs only [go_sem, Nat.reduceAdd, Nat.reduceMul, Nat.reduceSub, Nat.reduceDiv, Nat.reduceMod, Nat.reduceLT, Nat.reduceLeDiff, Nat.reduceBEq, Nat.reduceBNe, Nat.reduceEqDiff, Nat.reduceShiftLeft, Nat.reduceShiftRight, Nat.reduceOr, Nat.reduceAnd, Nat.reducePow, Nat.reduceSucc, Int.reduceToNat, Int.reduceAdd, Int.reduceSub, Int.reduceMul, Int.reduceNeg, Int.reduceTMod, Int.reduceTDiv, Int.reduceDiv, Int.reduceMod, Int.reducePow, Int.reduceLT, Int.reduceLE, Int.reduceEq, Int.reduceBEq, Int.reduceBNe, Int.reduceNe, reduceIte, reduceCtorEq, Int.cast_ofNat_Int, implies_true, forall_const, wrap64]
    rw [loopEq]
    simp (maxSteps := 1000000) -implicitDefEqProofs only [go_sem, Nat.reduceAdd, Nat.reduceMul, Nat.reduceSub, Nat.reduceDiv, Nat.reduceMod, Nat.reduceLT, Nat.reduceLeDiff, Nat.reduceBEq, Nat.reduceBNe, Nat.reduceEqDiff, Nat.reduceShiftLeft, Nat.reduceShiftRight, Nat.reduceOr, Nat.reduceAnd, Nat.reducePow, Nat.reduceSucc, Int.reduceToNat, Int.reduceAdd, Int.reduceSub, Int.reduceMul, Int.reduceNeg, Int.reduceTMod, Int.reduceTDiv, Int.reduceDiv, Int.reduceMod, Int.reducePow, Int.reduceLT, Int.reduceLE, Int.reduceEq, Int.reduceBEq, Int.reduceBNe, Int.reduceNe, reduceIte, reduceCtorEq, Int.cast_ofNat_Int, implies_true, forall_const, wrap64]
    rw [loopEq]
    simp (maxSteps := 1000000) -implicitDefEqProofs only [go_sem, Nat.reduceAdd, Nat.reduceMul, Nat.reduceSub, Nat.reduceDiv, Nat.reduceMod, Nat.reduceLT, Nat.reduceLeDiff, Nat.reduceBEq, Nat.reduceBNe, Nat.reduceEqDiff, Nat.reduceShiftLeft, Nat.reduceShiftRight, Nat.reduceOr, Nat.reduceAnd, Nat.reducePow, Nat.reduceSucc, Int.reduceToNat, Int.reduceAdd, Int.reduceSub, Int.reduceMul, Int.reduceNeg, Int.reduceTMod, Int.reduceTDiv, Int.reduceDiv, Int.reduceMod, Int.reducePow, Int.reduceLT, Int.reduceLE, Int.reduceEq, Int.reduceBEq, Int.reduceBNe, Int.reduceNe, reduceIte, reduceCtorEq, Int.cast_ofNat_Int, implies_true, forall_const, wrap64]
    simp [rot]
  · simp (maxSteps := 1000000) -implicitDefEqProofs only [go_sem, Nat.reduceAdd, Nat.reduceMul, Nat.reduceSub, Nat.reduceDiv, Nat.reduceMod, Nat.reduceLT, Nat.reduceLeDiff, Nat.reduceBEq, Nat.reduceBNe, Nat.reduceEqDiff, Nat.reduceShiftLeft, Nat.reduceShiftRight, Nat.reduceOr, Nat.reduceAnd, Nat.reducePow, Nat.reduceSucc, Int.reduceToNat, Int.reduceAdd, Int.reduceSub, Int.reduceMul, Int.reduceNeg, Int.reduceTMod, Int.reduceTDiv, Int.reduceDiv, Int.reduceMod, Int.reducePow, Int.reduceLT, Int.reduceLE, Int.reduceEq, Int.reduceBEq, Int.reduceBNe, Int.reduceNe, reduceIte, reduceCtorEq, Int.cast_ofNat_Int, implies_true, forall_const, wrap64]
    rw [loopEq]
    simp (maxSteps := 1000000) -implicitDefEqProofs only [go_sem, Nat.reduceAdd, Nat.reduceMul, Nat.reduceSub, Nat.reduceDiv, Nat.reduceMod, Nat.reduceLT, Nat.reduceLeDiff, Nat.reduceBEq, Nat.reduceBNe, Nat.reduceEqDiff, Nat.reduceShiftLeft, Nat.reduceShiftRight, Nat.reduceOr, Nat.reduceAnd, Nat.reducePow, Nat.reduceSucc, Int.reduceToNat, Int.reduceAdd, Int.reduceSub, Int.reduceMul, Int.reduceNeg, Int.reduceTMod, Int.reduceTDiv, Int.reduceDiv, Int.reduceMod, Int.reducePow, Int.reduceLT, Int.reduceLE, Int.reduceEq, Int.reduceBEq, Int.reduceBNe, Int.reduceNe, reduceIte, reduceCtorEq, Int.cast_ofNat_Int, implies_true, forall_const, wrap64]
    rw [loopEq]
    simp (maxSteps := 1000000) -implicitDefEqProofs only [go_sem, Nat.reduceAdd, Nat.reduceMul, Nat.reduceSub, Nat.reduceDiv, Nat.reduceMod, Nat.reduceLT, Nat.reduceLeDiff, Nat.reduceBEq, Nat.reduceBNe, Nat.reduceEqDiff, Nat.reduceShiftLeft, Nat.reduceShiftRight, Nat.reduceOr, Nat.reduceAnd, Nat.reducePow, Nat.reduceSucc, Int.reduceToNat, Int.reduceAdd, Int.reduceSub, Int.reduceMul, Int.reduceNeg, Int.reduceTMod, Int.reduceTDiv, Int.reduceDiv, Int.reduceMod, Int.reducePow, Int.reduceLT, Int.reduceLE, Int.reduceEq, Int.reduceBEq, Int.reduceBNe, Int.reduceNe, reduceIte, reduceCtorEq, Int.cast_ofNat_Int, implies_true, forall_const, wrap64]
    rw [loopEq]
    simp (maxSteps := 1000000) -implicitDefEqProofs only [go_sem, Nat.reduceAdd, Nat.reduceMul, Nat.reduceSub, Nat.reduceDiv, Nat.reduceMod, Nat.reduceLT, Nat.reduceLeDiff, Nat.reduceBEq, Nat.reduceBNe, Nat.reduceEqDiff, Nat.reduceShiftLeft, Nat.reduceShiftRight, Nat.reduceOr, Nat.reduceAnd, Nat.reducePow, Nat.reduceSucc, Int.reduceToNat, Int.reduceAdd, Int.reduceSub, Int.reduceMul, Int.reduceNeg, Int.reduceTMod, Int.reduceTDiv, Int.reduceDiv, Int.reduceMod, Int.reducePow, Int.reduceLT, Int.reduceLE, Int.reduceEq, Int.reduceBEq, Int.reduceBNe, Int.reduceNe, reduceIte, reduceCtorEq, Int.cast_ofNat_Int, implies_true, forall_const, wrap64]
    rw [loopEq]
    simp (maxSteps := 1000000) -implicitDefEqProofs only [go_sem, Nat.reduceAdd, Nat.reduceMul, Nat.reduceSub, Nat.reduceDiv, Nat.reduceMod, Nat.reduceLT, Nat.reduceLeDiff, Nat.reduceBEq, Nat.reduceBNe, Nat.reduceEqDiff, Nat.reduceShiftLeft, Nat.reduceShiftRight, Nat.reduceOr, Nat.reduceAnd, Nat.reducePow, Nat.reduceSucc, Int.reduceToNat, Int.reduceAdd, Int.reduceSub, Int.reduceMul, Int.reduceNeg, Int.reduceTMod, Int.reduceTDiv, Int.reduceDiv, Int.reduceMod, Int.reducePow, Int.reduceLT, Int.reduceLE, Int.reduceEq, Int.reduceBEq, Int.reduceBNe, Int.reduceNe, reduceIte, reduceCtorEq, Int.cast_ofNat_Int, implies_true, forall_const, wrap64]
    rw [loopEq]
    simp (maxSteps := 1000000) -implicitDefEqProofs only [go_sem, Nat.reduceAdd, Nat.reduceMul, Nat.reduceSub, Nat.reduceDiv, Nat.reduceMod, Nat.reduceLT, Nat.reduceLeDiff, Nat.reduceBEq, Nat.reduceBNe, Nat.reduceEqDiff, Nat.reduceShiftLeft, Nat.reduceShiftRight, Nat.reduceOr, Nat.reduceAnd, Nat.reducePow, Nat.reduceSucc, Int.reduceToNat, Int.reduceAdd, Int.reduceSub, Int.reduceMul, Int.reduceNeg, Int.reduceTMod, Int.reduceTDiv, Int.reduceDiv, Int.reduceMod, Int.reducePow, Int.reduceLT, Int.reduceLE, Int.reduceEq, Int.reduceBEq, Int.reduceBNe, Int.reduceNe, reduceIte, reduceCtorEq, Int.cast_ofNat_Int, implies_true, forall_const, wrap64]
    simp [rot]
end Go.Den.FaT

namespace Go.Den.FaT
open Go Go.Proofs Go.Den
set_option linter.unusedVariables false
set_option linter.unusedSimpArgs false
set_option maxRecDepth 100000

theorem c71 (n sx sy x y : Int) (h : 0 ≤ n ∧ n ≤ 3) : (lim T).call 71 [.agg [.int .i64 n, .int .i64 sx, .int .i64 sy], .agg [.int .i64 x, .int .i64 y]] [] 0 [] =
    some (.agg [.int .i64 (IntKind.i64.wrap ((rot n.toNat (x, y)).1 + sx)), .int .i64 (IntKind.i64.wrap ((rot n.toNat (x, y)).2 + sy))], [], 0, []) := by
  rw [ent71]
  simp (maxSteps := 1000000) -implicitDefEqProofs only [go_sem, Nat.reduceAdd, Nat.reduceMul, Nat.reduceSub, Nat.reduceDiv, Nat.reduceMod, Nat.reduceLT, Nat.reduceLeDiff, Nat.reduceBEq, Nat.reduceBNe, Nat.reduceEqDiff, Nat.reduceShiftLeft, Nat.reduceShiftRight, Nat.reduceOr, Nat.reduceAnd, Nat.reducePow, Nat.reduceSucc, Int.reduceToNat, Int.reduceAdd, Int.reduceSub, Int.reduceMul, Int.reduceNeg, Int.reduceTMod, Int.reduceTDiv, Int.reduceDiv, Int.reduceMod, Int.reducePow, Int.reduceLT, Int.reduceLE, Int.reduceEq, Int.reduceBEq, Int.reduceBNe, Int.reduceNe, reduceIte, reduceCtorEq, Int.cast_ofNat_Int, implies_true, forall_const, c164 n x y (by omega)]
theorem c72 (n sx sy x y : Int) (h : 0 ≤ n ∧ n ≤ 3) : (lim T).call 72 [.agg [.int .i64 n, .int .i64 sx, .int .i64 sy], .agg [.int .i64 x, .int .i64 y]] [] 0 [] =
    some (.agg [.int .i64 (rot (4 - n).toNat (IntKind.i64.wrap (x - sx), IntKind.i64.wrap (y - sy))).1, .int .i64 (rot (4 - n).toNat (IntKind.i64.wrap (x - sx), IntKind.i64.wrap (y - sy))).2], [], 0, []) := by
  rw [ent72]
  simp (maxSteps := 1000000) -implicitDefEqProofs only [go_sem, Nat.reduceAdd, Nat.reduceMul, Nat.reduceSub, Nat.reduceDiv, Nat.reduceMod, Nat.reduceLT, Nat.reduceLeDiff, Nat.reduceBEq, Nat.reduceBNe, Nat.reduceEqDiff, Nat.reduceShiftLeft, Nat.reduceShiftRight, Nat.reduceOr, Nat.reduceAnd, Nat.reducePow, Nat.reduceSucc, Int.reduceToNat, Int.reduceAdd, Int.reduceSub, Int.reduceMul, Int.reduceNeg, Int.reduceTMod, Int.reduceTDiv, Int.reduceDiv, Int.reduceMod, Int.reducePow, Int.reduceLT, Int.reduceLE, Int.reduceEq, Int.reduceBEq, Int.reduceBNe, Int.reduceNe, reduceIte, reduceCtorEq, Int.cast_ofNat_Int, implies_true, forall_const, wrap64 (n := 4 - n) (by omega) (by omega), c164 (4 - n) _ _ (by omega)]
theorem c66 (n sx sy x y : Int) : (lim T).call 66 [.agg [.int .i64 n, .int .i64 sx, .int .i64 sy], .agg [.int .i64 x, .int .i64 y]] [] 0 [] =
    some (if fnz [ckF n sx sy, ckP x y] = 0 then .tup [.agg [.int .i64 (carr n sx sy x y).1, .int .i64 (carr n sx sy x y).2], .int .i64 0] else .tup [.agg [.int .i64 0, .int .i64 0], .int .i64 (fnz [ckF n sx sy, ckP x y])], [], 0, []) := by
  rw [ent66]
  cases h : (fnz [ckF n sx sy, ckP x y] != 0)
  · have h1 : fnz [ckF n sx sy, ckP x y] = 0 := by simpa using h
    have h2 : 0 ≤ n ∧ n ≤ 3 := by
      simp only [ckF, fnz, rng_eq] at h1
      by_cases h3 : n < 0 ∨ 3 < n
      · simp [h3] at h1
      · omega
    simp (maxSteps := 1000000) -implicitDefEqProofs only [go_sem, Nat.reduceAdd, Nat.reduceMul, Nat.reduceSub, Nat.reduceDiv, Nat.reduceMod, Nat.reduceLT, Nat.reduceLeDiff, Nat.reduceBEq, Nat.reduceBNe, Nat.reduceEqDiff, Nat.reduceShiftLeft, Nat.reduceShiftRight, Nat.reduceOr, Nat.reduceAnd, Nat.reducePow, Nat.reduceSucc, Int.reduceToNat, Int.reduceAdd, Int.reduceSub, Int.reduceMul, Int.reduceNeg, Int.reduceTMod, Int.reduceTDiv, Int.reduceDiv, Int.reduceMod, Int.reducePow, Int.reduceLT, Int.reduceLE, Int.reduceEq, Int.reduceBEq, Int.reduceBNe, Int.reduceNe, reduceIte, reduceCtorEq, Int.cast_ofNat_Int, implies_true, forall_const, c160, c161, c114_2, h, c162 n sx sy x y h2]
    simp [h1]
  · have h1 : fnz [ckF n sx sy, ckP x y] ≠ 0 := by simpa using h
    simp (maxSteps := 1000000) -implicitDefEqProofs only [go_sem, Nat.reduceAdd, Nat.reduceMul, Nat.reduceSub, Nat.reduceDiv, Nat.reduceMod, Nat.reduceLT, Nat.reduceLeDiff, Nat.reduceBEq, Nat.reduceBNe, Nat.reduceEqDiff, Nat.reduceShiftLeft, Nat.reduceShiftRight, Nat.reduceOr, Nat.reduceAnd, Nat.reducePow, Nat.reduceSucc, Int.reduceToNat, Int.reduceAdd, Int.reduceSub, Int.reduceMul, Int.reduceNeg, Int.reduceTMod, Int.reduceTDiv, Int.reduceDiv, Int.reduceMod, Int.reducePow, Int.reduceLT, Int.reduceLE, Int.reduceEq, Int.reduceBEq, Int.reduceBNe, Int.reduceNe, reduceIte, reduceCtorEq, Int.cast_ofNat_Int, implies_true, forall_const, c160, c161, c114_2, h]
    simp [h1]
/-- the index of the quarter turns back -/
theorem c67 (n sx sy x y : Int) : (lim T).call 67 [.agg [.int .i64 n, .int .i64 sx, .int .i64 sy], .agg [.int .i64 x, .int .i64 y]] [] 0 [] =
    some (if fnz [ckF n sx sy, ckP x y] = 0 then .tup [.agg [.int .i64 (trn ((4 - n) % 4) (IntKind.i64.wrap (x - sx)) (IntKind.i64.wrap (y - sy))).1, .int .i64 (trn ((4 - n) % 4) (IntKind.i64.wrap (x - sx)) (IntKind.i64.wrap (y - sy))).2], .int .i64 0] else .tup [.agg [.int .i64 0, .int .i64 0], .int .i64 (fnz [ckF n sx sy, ckP x y])], [], 0, []) := by
  rw [ent67]
  cases h : (fnz [ckF n sx sy, ckP x y] != 0)
  · have h1 : fnz [ckF n sx sy, ckP x y] = 0 := by simpa using h
    have h2 : 0 ≤ n ∧ n ≤ 3 := by
      simp only [ckF, fnz, rng_eq] at h1
      by_cases h3 : n < 0 ∨ 3 < n
      · simp [h3] at h1
      · omega
    rw [if_pos h1]
    have h3 : n = 0 ∨ n = 1 ∨ n = 2 ∨ n = 3 := by omega
    rcases h3 with rfl | rfl | rfl | rfl
    · simp (maxSteps := 1000000) -implicitDefEqProofs only [go_sem, Nat.reduceAdd, Nat.reduceMul, Nat.reduceSub, Nat.reduceDiv, Nat.reduceMod, Nat.reduceLT, Nat.reduceLeDiff, Nat.reduceBEq, Nat.reduceBNe, Nat.reduceEqDiff, Nat.reduceShiftLeft, Nat.reduceShiftRight, Nat.reduceOr, Nat.reduceAnd, Nat.reducePow, Nat.reduceSucc, Int.reduceToNat, Int.reduceAdd, Int.reduceSub, Int.reduceMul, Int.reduceNeg, Int.reduceTMod, Int.reduceTDiv, Int.reduceDiv, Int.reduceMod, Int.reducePow, Int.reduceLT, Int.reduceLE, Int.reduceEq, Int.reduceBEq, Int.reduceBNe, Int.reduceNe, reduceIte, reduceCtorEq, Int.cast_ofNat_Int, implies_true, forall_const, c160, c161, c114_2, h, wrap64, c163, c327]
      simp [trn]
    · simp (maxSteps := 1000000) -implicitDefEqProofs only [go_sem, Nat.reduceAdd, Nat.reduceMul, Nat.reduceSub, Nat.reduceDiv, Nat.reduceMod, Nat.reduceLT, Nat.reduceLeDiff, Nat.reduceBEq, Nat.reduceBNe, Nat.reduceEqDiff, Nat.reduceShiftLeft, Nat.reduceShiftRight, Nat.reduceOr, Nat.reduceAnd, Nat.reducePow, Nat.reduceSucc, Int.reduceToNat, Int.reduceAdd, Int.reduceSub, Int.reduceMul, Int.reduceNeg, Int.reduceTMod, Int.reduceTDiv, Int.reduceDiv, Int.reduceMod, Int.reducePow, Int.reduceLT, Int.reduceLE, Int.reduceEq, Int.reduceBEq, Int.reduceBNe, Int.reduceNe, reduceIte, reduceCtorEq, Int.cast_ofNat_Int, implies_true, forall_const, c160, c161, c114_2, h, wrap64, c163, c330]
      simp [trn]
    · simp (maxSteps := 1000000) -implicitDefEqProofs only [go_sem, Nat.reduceAdd, Nat.reduceMul, Nat.reduceSub, Nat.reduceDiv, Nat.reduceMod, Nat.reduceLT, Nat.reduceLeDiff, Nat.reduceBEq, Nat.reduceBNe, Nat.reduceEqDiff, Nat.reduceShiftLeft, Nat.reduceShiftRight, Nat.reduceOr, Nat.reduceAnd, Nat.reducePow, Nat.reduceSucc, Int.reduceToNat, Int.reduceAdd, Int.reduceSub, Int.reduceMul, Int.reduceNeg, Int.reduceTMod, Int.reduceTDiv, Int.reduceDiv, Int.reduceMod, Int.reducePow, Int.reduceLT, Int.reduceLE, Int.reduceEq, Int.reduceBEq, Int.reduceBNe, Int.reduceNe, reduceIte, reduceCtorEq, Int.cast_ofNat_Int, implies_true, forall_const, c160, c161, c114_2, h, wrap64, c163, c329]
      simp [trn]
    · simp (maxSteps := 1000000) -implicitDefEqProofs only [go_sem, Nat.reduceAdd, Nat.reduceMul, Nat.reduceSub, Nat.reduceDiv, Nat.reduceMod, Nat.reduceLT, Nat.reduceLeDiff, Nat.reduceBEq, Nat.reduceBNe, Nat.reduceEqDiff, Nat.reduceShiftLeft, Nat.reduceShiftRight, Nat.reduceOr, Nat.reduceAnd, Nat.reducePow, Nat.reduceSucc, Int.reduceToNat, Int.reduceAdd, Int.reduceSub, Int.reduceMul, Int.reduceNeg, Int.reduceTMod, Int.reduceTDiv, Int.reduceDiv, Int.reduceMod, Int.reducePow, Int.reduceLT, Int.reduceLE, Int.reduceEq, Int.reduceBEq, Int.reduceBNe, Int.reduceNe, reduceIte, reduceCtorEq, Int.cast_ofNat_Int, implies_true, forall_const, c160, c161, c114_2, h, wrap64, c163, c328]
      simp [trn]
  · have h1 : fnz [ckF n sx sy, ckP x y] ≠ 0 := by simpa using h
    simp (maxSteps := 1000000) -implicitDefEqProofs only [go_sem, Nat.reduceAdd, Nat.reduceMul, Nat.reduceSub, Nat.reduceDiv, Nat.reduceMod, Nat.reduceLT, Nat.reduceLeDiff, Nat.reduceBEq, Nat.reduceBNe, Nat.reduceEqDiff, Nat.reduceShiftLeft, Nat.reduceShiftRight, Nat.reduceOr, Nat.reduceAnd, Nat.reducePow, Nat.reduceSucc, Int.reduceToNat, Int.reduceAdd, Int.reduceSub, Int.reduceMul, Int.reduceNeg, Int.reduceTMod, Int.reduceTDiv, Int.reduceDiv, Int.reduceMod, Int.reducePow, Int.reduceLT, Int.reduceLE, Int.reduceEq, Int.reduceBEq, Int.reduceBNe, Int.reduceNe, reduceIte, reduceCtorEq, Int.cast_ofNat_Int, implies_true, forall_const, c160, c161, c114_2, h]
    simp [h1]
end Go.Den.FaT

namespace Go.Den.FaT
open Go Go.Proofs Go.Den
set_option linter.unusedVariables false
set_option linter.unusedSimpArgs false
set_option maxRecDepth 100000

theorem loop165 (b : Bool) (l : List (Int × Int)) (hb : l.length < 4611686018427387904) : ∀ i, i ≤ l.length → (lim T).loop false [.code (.loop b165_0), .inBlock 0, .code (.seq r165_7 .ret)] ⟨165, 19, 0, [(0, .sl b 2 (l.map fun p => .agg [.int .i64 p.1, .int .i64 p.2])), (3, .int .i64 i)], [], 0, []⟩ = some (.ret (.int .i64 (fnz ((l.drop i).map fun p => ckP p.1 p.2))), [], 0, []) := by
  refine down_ind l.length ?_ fun i hi ih => ?_
  · rw [loopEq]
    have h1 := idx_out l.length
    simp (maxSteps := 1000000) -implicitDefEqProofs only [go_sem, Nat.reduceAdd, Nat.reduceMul, Nat.reduceSub, Nat.reduceDiv, Nat.reduceMod, Nat.reduceLT, Nat.reduceLeDiff, Nat.reduceBEq, Nat.reduceBNe, Nat.reduceEqDiff, Nat.reduceShiftLeft, Nat.reduceShiftRight, Nat.reduceOr, Nat.reduceAnd, Nat.reducePow, Nat.reduceSucc, Int.reduceToNat, Int.reduceAdd, Int.reduceSub, Int.reduceMul, Int.reduceNeg, Int.reduceTMod, Int.reduceTDiv, Int.reduceDiv, Int.reduceMod, Int.reducePow, Int.reduceLT, Int.reduceLE, Int.reduceEq, Int.reduceBEq, Int.reduceBNe, Int.reduceNe, reduceIte, reduceCtorEq, Int.cast_ofNat_Int, implies_true, forall_const, h1]
    simp [fnz]
  · obtain ⟨h1, h2, h3, h4, h5⟩ := idx_in hi hb
    rw [loopEq, h5]
    cases h6 : (ckP l[i].1 l[i].2 != 0)
    · have h7 : ckP l[i].1 l[i].2 = 0 := by simpa using h6
      simp (maxSteps := 1000000) -implicitDefEqProofs only [go_sem, Nat.reduceAdd, Nat.reduceMul, Nat.reduceSub, Nat.reduceDiv, Nat.reduceMod, Nat.reduceLT, Nat.reduceLeDiff, Nat.reduceBEq, Nat.reduceBNe, Nat.reduceEqDiff, Nat.reduceShiftLeft, Nat.reduceShiftRight, Nat.reduceOr, Nat.reduceAnd, Nat.reducePow, Nat.reduceSucc, Int.reduceToNat, Int.reduceAdd, Int.reduceSub, Int.reduceMul, Int.reduceNeg, Int.reduceTMod, Int.reduceTDiv, Int.reduceDiv, Int.reduceMod, Int.reducePow, Int.reduceLT, Int.reduceLE, Int.reduceEq, Int.reduceBEq, Int.reduceBNe, Int.reduceNe, reduceIte, reduceCtorEq, Int.cast_ofNat_Int, implies_true, forall_const, h1, h2, h3, h4, h6, ih, c70]
      simp [fnz, h7]
    · have h7 : ckP l[i].1 l[i].2 ≠ 0 := by simpa using h6
      simp (maxSteps := 1000000) -implicitDefEqProofs only [go_sem, Nat.reduceAdd, Nat.reduceMul, Nat.reduceSub, Nat.reduceDiv, Nat.reduceMod, Nat.reduceLT, Nat.reduceLeDiff, Nat.reduceBEq, Nat.reduceBNe, Nat.reduceEqDiff, Nat.reduceShiftLeft, Nat.reduceShiftRight, Nat.reduceOr, Nat.reduceAnd, Nat.reducePow, Nat.reduceSucc, Int.reduceToNat, Int.reduceAdd, Int.reduceSub, Int.reduceMul, Int.reduceNeg, Int.reduceTMod, Int.reduceTDiv, Int.reduceDiv, Int.reduceMod, Int.reducePow, Int.reduceLT, Int.reduceLE, Int.reduceEq, Int.reduceBEq, Int.reduceBNe, Int.reduceNe, reduceIte, reduceCtorEq, Int.cast_ofNat_Int, implies_true, forall_const, h1, h2, h3, h4, h6, c70]
      simp [fnz, h7]
theorem c165 (b : Bool) (l : List (Int × Int)) (hb : l.length < 4611686018427387904) : (lim T).call 165 [.sl b 2 (l.map fun p => .agg [.int .i64 p.1, .int .i64 p.2])] [] 0 [] = some (.int .i64 (fnz (l.map fun p => ckP p.1 p.2)), [], 0, []) := by
  rw [ent165]
  have h := loop165 b l hb 0 (by omega)
  rw [show ((0 : Nat) : Int) = 0 from rfl, List.drop_zero] at h
  simp (maxSteps := 1000000) -implicitDefEqProofs only [go_sem, Nat.reduceAdd, Nat.reduceMul, Nat.reduceSub, Nat.reduceDiv, Nat.reduceMod, Nat.reduceLT, Nat.reduceLeDiff, Nat.reduceBEq, Nat.reduceBNe, Nat.reduceEqDiff, Nat.reduceShiftLeft, Nat.reduceShiftRight, Nat.reduceOr, Nat.reduceAnd, Nat.reducePow, Nat.reduceSucc, Int.reduceToNat, Int.reduceAdd, Int.reduceSub, Int.reduceMul, Int.reduceNeg, Int.reduceTMod, Int.reduceTDiv, Int.reduceDiv, Int.reduceMod, Int.reducePow, Int.reduceLT, Int.reduceLE, Int.reduceEq, Int.reduceBEq, Int.reduceBNe, Int.reduceNe, reduceIte, reduceCtorEq, Int.cast_ofNat_Int, implies_true, forall_const, h]
/-- mapped(l, checkPoint) -/
theorem loop141 (b : Bool) (l : List (Int × Int)) (hb : l.length < 1000000) : ∀ i, i ≤ l.length → ∀ o : Option (List Int), acL o = i →
    (lim T).loop false [.code (.loop b141_0), .inBlock 0, .code (.seq r141_7 .ret)] ⟨141, 22, 0, [(1, .fn 161 []), (5, acV o 0), (8, .sl b 2 (l.map fun p => .agg [.int .i64 p.1, .int .i64 p.2])), (9, .int .i64 l.length), (10, .int .i64 i)], acR (fun n => .int .i64 n) o 29, 0, []⟩ =
      some (.ret (acO (fun n => .int .i64 n) 0 1 (acA o ((l.drop i).map fun p => ckP p.1 p.2))), [], 0, []) := by
  refine down_ind l.length ?_ fun i hi ih o ho => ?_
  · intro o ho
    rw [loopEq]
    have h1 := idx_out l.length
    cases o with
    | none =>
      simp (maxSteps := 1000000) -implicitDefEqProofs only [go_sem, Nat.reduceAdd, Nat.reduceMul, Nat.reduceSub, Nat.reduceDiv, Nat.reduceMod, Nat.reduceLT, Nat.reduceLeDiff, Nat.reduceBEq, Nat.reduceBNe, Nat.reduceEqDiff, Nat.reduceShiftLeft, Nat.reduceShiftRight, Nat.reduceOr, Nat.reduceAnd, Nat.reducePow, Nat.reduceSucc, Int.reduceToNat, Int.reduceAdd, Int.reduceSub, Int.reduceMul, Int.reduceNeg, Int.reduceTMod, Int.reduceTDiv, Int.reduceDiv, Int.reduceMod, Int.reducePow, Int.reduceLT, Int.reduceLE, Int.reduceEq, Int.reduceBEq, Int.reduceBNe, Int.reduceNe, reduceIte, reduceCtorEq, Int.cast_ofNat_Int, implies_true, forall_const, h1]
      simp [acA, acO]
    | some a =>
      simp (maxSteps := 1000000) -implicitDefEqProofs only [go_sem, Nat.reduceAdd, Nat.reduceMul, Nat.reduceSub, Nat.reduceDiv, Nat.reduceMod, Nat.reduceLT, Nat.reduceLeDiff, Nat.reduceBEq, Nat.reduceBNe, Nat.reduceEqDiff, Nat.reduceShiftLeft, Nat.reduceShiftRight, Nat.reduceOr, Nat.reduceAnd, Nat.reducePow, Nat.reduceSucc, Int.reduceToNat, Int.reduceAdd, Int.reduceSub, Int.reduceMul, Int.reduceNeg, Int.reduceTMod, Int.reduceTDiv, Int.reduceDiv, Int.reduceMod, Int.reducePow, Int.reduceLT, Int.reduceLE, Int.reduceEq, Int.reduceBEq, Int.reduceBNe, Int.reduceNe, reduceIte, reduceCtorEq, Int.cast_ofNat_Int, implies_true, forall_const, h1]
      simp [acA, acO]
  · obtain ⟨h1, h2, h3, h4, h5⟩ := idx_in hi (by omega)
    rw [loopEq, h5]
    have ih' := ih (acA o [ckP l[i].1 l[i].2]) (by rw [acL_A, ho]; rfl)
    rw [acA_acA] at ih'
    cases o with
    | none =>
      have h8 := row_ok (n := 0) (by omega)
      simp only [acA_n, acV_s, acR_s, List.map_cons, List.map_nil] at ih'
      simp (maxSteps := 1000000) -implicitDefEqProofs only [go_sem, Nat.reduceAdd, Nat.reduceMul, Nat.reduceSub, Nat.reduceDiv, Nat.reduceMod, Nat.reduceLT, Nat.reduceLeDiff, Nat.reduceBEq, Nat.reduceBNe, Nat.reduceEqDiff, Nat.reduceShiftLeft, Nat.reduceShiftRight, Nat.reduceOr, Nat.reduceAnd, Nat.reducePow, Nat.reduceSucc, Int.reduceToNat, Int.reduceAdd, Int.reduceSub, Int.reduceMul, Int.reduceNeg, Int.reduceTMod, Int.reduceTDiv, Int.reduceDiv, Int.reduceMod, Int.reducePow, Int.reduceLT, Int.reduceLE, Int.reduceEq, Int.reduceBEq, Int.reduceBNe, Int.reduceNe, reduceIte, reduceCtorEq, Int.cast_ofNat_Int, implies_true, forall_const, h1, h2, h3, h4, ih', c161, h8.2]
    | some a =>
      have h9 : a.length = i := ho
      have h8 := (row_ok (n := a.length) (by omega)).1
      simp only [acA_s, acV_s, acR_s, List.map_append, List.map_cons, List.map_nil] at ih'
      simp (maxSteps := 1000000) -implicitDefEqProofs only [go_sem, Nat.reduceAdd, Nat.reduceMul, Nat.reduceSub, Nat.reduceDiv, Nat.reduceMod, Nat.reduceLT, Nat.reduceLeDiff, Nat.reduceBEq, Nat.reduceBNe, Nat.reduceEqDiff, Nat.reduceShiftLeft, Nat.reduceShiftRight, Nat.reduceOr, Nat.reduceAnd, Nat.reducePow, Nat.reduceSucc, Int.reduceToNat, Int.reduceAdd, Int.reduceSub, Int.reduceMul, Int.reduceNeg, Int.reduceTMod, Int.reduceTDiv, Int.reduceDiv, Int.reduceMod, Int.reducePow, Int.reduceLT, Int.reduceLE, Int.reduceEq, Int.reduceBEq, Int.reduceBNe, Int.reduceNe, reduceIte, reduceCtorEq, Int.cast_ofNat_Int, implies_true, forall_const, h1, h2, h3, h4, ih', c161, h8]
theorem c141 (b : Bool) (l : List (Int × Int)) (hb : l.length < 1000000) : (lim T).call 141 [.sl b 2 (l.map fun p => .agg [.int .i64 p.1, .int .i64 p.2]), .fn 161 []] [] 0 [] =
    some (slV 1 ((l.map fun p => ckP p.1 p.2).map fun n => .int .i64 n), [], 0, []) := by
  rw [ent141]
  have h := loop141 b l hb 0 (by omega) none rfl
  rw [show ((0 : Nat) : Int) = 0 from rfl, List.drop_zero, acO_slV] at h
  simp only [acV_n, acR_n] at h
  simp (maxSteps := 1000000) -implicitDefEqProofs only [go_sem, Nat.reduceAdd, Nat.reduceMul, Nat.reduceSub, Nat.reduceDiv, Nat.reduceMod, Nat.reduceLT, Nat.reduceLeDiff, Nat.reduceBEq, Nat.reduceBNe, Nat.reduceEqDiff, Nat.reduceShiftLeft, Nat.reduceShiftRight, Nat.reduceOr, Nat.reduceAnd, Nat.reducePow, Nat.reduceSucc, Int.reduceToNat, Int.reduceAdd, Int.reduceSub, Int.reduceMul, Int.reduceNeg, Int.reduceTMod, Int.reduceTDiv, Int.reduceDiv, Int.reduceMod, Int.reducePow, Int.reduceLT, Int.reduceLE, Int.reduceEq, Int.reduceBEq, Int.reduceBNe, Int.reduceNe, reduceIte, reduceCtorEq, Int.cast_ofNat_Int, implies_true, forall_const, h]
theorem c73 (b c : Bool) (l m : List (Int × Int)) (hl : l.length < 1000000) (hm : m.length < 1000000) : (lim T).call 73 [.sl b 2 (l.map fun p => .agg [.int .i64 p.1, .int .i64 p.2]), .sl c 2 (m.map fun p => .agg [.int .i64 p.1, .int .i64 p.2])] [] 0 [] =
    some (.int .i64 (fnz [cond ((l.length : Int) == 0) 12 0, cond (decide (8 < (l.length : Int))) 5 0, fnz (l.map fun p => ckP p.1 p.2), cond ((l.length : Int) != m.length) 2 0, fnz (m.map fun p => ckP p.1 p.2)]), [], 0, []) := by
  rw [ent73]
  simp (maxSteps := 1000000) -implicitDefEqProofs only [go_sem, Nat.reduceAdd, Nat.reduceMul, Nat.reduceSub, Nat.reduceDiv, Nat.reduceMod, Nat.reduceLT, Nat.reduceLeDiff, Nat.reduceBEq, Nat.reduceBNe, Nat.reduceEqDiff, Nat.reduceShiftLeft, Nat.reduceShiftRight, Nat.reduceOr, Nat.reduceAnd, Nat.reducePow, Nat.reduceSucc, Int.reduceToNat, Int.reduceAdd, Int.reduceSub, Int.reduceMul, Int.reduceNeg, Int.reduceTMod, Int.reduceTDiv, Int.reduceDiv, Int.reduceMod, Int.reducePow, Int.reduceLT, Int.reduceLE, Int.reduceEq, Int.reduceBEq, Int.reduceBNe, Int.reduceNe, reduceIte, reduceCtorEq, Int.cast_ofNat_Int, implies_true, forall_const, c39, c165 b l (by omega), c165 c m (by omega), c108_5]
theorem c112 (n k : Int) : (lim T).call 112 [.int .i64 n, .int .i64 k] [] 0 [] = some (.int .i64 (fnz [cond (n == 0) 12 0, cond (decide (k < n)) 5 0]), [], 0, []) := by
  rw [ent112]
  simp (maxSteps := 1000000) -implicitDefEqProofs only [go_sem, Nat.reduceAdd, Nat.reduceMul, Nat.reduceSub, Nat.reduceDiv, Nat.reduceMod, Nat.reduceLT, Nat.reduceLeDiff, Nat.reduceBEq, Nat.reduceBNe, Nat.reduceEqDiff, Nat.reduceShiftLeft, Nat.reduceShiftRight, Nat.reduceOr, Nat.reduceAnd, Nat.reducePow, Nat.reduceSucc, Int.reduceToNat, Int.reduceAdd, Int.reduceSub, Int.reduceMul, Int.reduceNeg, Int.reduceTMod, Int.reduceTDiv, Int.reduceDiv, Int.reduceMod, Int.reducePow, Int.reduceLT, Int.reduceLE, Int.reduceEq, Int.reduceBEq, Int.reduceBNe, Int.reduceNe, reduceIte, reduceCtorEq, Int.cast_ofNat_Int, implies_true, forall_const, c115, c114_2]
theorem c47 (b : Bool) (l : List (Int × Int)) (hl : l.length < 1000000) : (lim T).call 47 [.sl b 2 (l.map fun p => .agg [.int .i64 p.1, .int .i64 p.2])] [] 0 [] = some (.sl true 2 (l.map fun p => .agg [.int .i64 p.1, .int .i64 p.2]), [], 0, []) := by
  rw [ent47]
  cases l with
  | nil => simp (maxSteps := 1000000) -implicitDefEqProofs only [go_sem, Nat.reduceAdd, Nat.reduceMul, Nat.reduceSub, Nat.reduceDiv, Nat.reduceMod, Nat.reduceLT, Nat.reduceLeDiff, Nat.reduceBEq, Nat.reduceBNe, Nat.reduceEqDiff, Nat.reduceShiftLeft, Nat.reduceShiftRight, Nat.reduceOr, Nat.reduceAnd, Nat.reducePow, Nat.reduceSucc, Int.reduceToNat, Int.reduceAdd, Int.reduceSub, Int.reduceMul, Int.reduceNeg, Int.reduceTMod, Int.reduceTDiv, Int.reduceDiv, Int.reduceMod, Int.reducePow, Int.reduceLT, Int.reduceLE, Int.reduceEq, Int.reduceBEq, Int.reduceBNe, Int.reduceNe, reduceIte, reduceCtorEq, Int.cast_ofNat_Int, implies_true, forall_const]
  | cons p l =>
    have h8 := (row_ok (n := l.length) (by simp at hl; omega)).1
    simp (maxSteps := 1000000) -implicitDefEqProofs only [go_sem, Nat.reduceAdd, Nat.reduceMul, Nat.reduceSub, Nat.reduceDiv, Nat.reduceMod, Nat.reduceLT, Nat.reduceLeDiff, Nat.reduceBEq, Nat.reduceBNe, Nat.reduceEqDiff, Nat.reduceShiftLeft, Nat.reduceShiftRight, Nat.reduceOr, Nat.reduceAnd, Nat.reducePow, Nat.reduceSucc, Int.reduceToNat, Int.reduceAdd, Int.reduceSub, Int.reduceMul, Int.reduceNeg, Int.reduceTMod, Int.reduceTDiv, Int.reduceDiv, Int.reduceMod, Int.reducePow, Int.reduceLT, Int.reduceLE, Int.reduceEq, Int.reduceBEq, Int.reduceBNe, Int.reduceNe, reduceIte, reduceCtorEq, Int.cast_ofNat_Int, implies_true, forall_const, h8]
theorem loop89 (b c : Bool) (l m : List Int) (hb : l.length < 4611686018427387904) (hm : l.length = m.length) : ∀ i, i ≤ l.length → (lim T).loop false [.code (.loop b89_0), .inBlock 0, .code (.seq r89_8 .ret)] ⟨89, 26, 0, [(0, .sl b 1 (l.map fun n => .int .i64 n)), (1, .sl c 1 (m.map fun n => .int .i64 n)), (5, .int .i64 i)], [], 0, []⟩ = some (.ret (.bool (decide (l.drop i = m.drop i))), [], 0, []) := by
  refine down_ind l.length ?_ fun i hi ih => ?_
  · rw [loopEq]
    have h1 := idx_out l.length
    simp (maxSteps := 1000000) -implicitDefEqProofs only [go_sem, Nat.reduceAdd, Nat.reduceMul, Nat.reduceSub, Nat.reduceDiv, Nat.reduceMod, Nat.reduceLT, Nat.reduceLeDiff, Nat.reduceBEq, Nat.reduceBNe, Nat.reduceEqDiff, Nat.reduceShiftLeft, Nat.reduceShiftRight, Nat.reduceOr, Nat.reduceAnd, Nat.reducePow, Nat.reduceSucc, Int.reduceToNat, Int.reduceAdd, Int.reduceSub, Int.reduceMul, Int.reduceNeg, Int.reduceTMod, Int.reduceTDiv, Int.reduceDiv, Int.reduceMod, Int.reducePow, Int.reduceLT, Int.reduceLE, Int.reduceEq, Int.reduceBEq, Int.reduceBNe, Int.reduceNe, reduceIte, reduceCtorEq, Int.cast_ofNat_Int, implies_true, forall_const, h1]
    simp [hm]
  · obtain ⟨h1, h2, h3, h4, h5⟩ := idx_in hi hb
    obtain ⟨g1, g2, g3, g4, g5⟩ := idx_in (l := m) (i := i) (by omega) (by omega)
    rw [loopEq]
    cases h6 : (l[i] != m[i])
    · have h7 : l[i] = m[i] := by simpa using h6
      simp (maxSteps := 1000000) -implicitDefEqProofs only [go_sem, Nat.reduceAdd, Nat.reduceMul, Nat.reduceSub, Nat.reduceDiv, Nat.reduceMod, Nat.reduceLT, Nat.reduceLeDiff, Nat.reduceBEq, Nat.reduceBNe, Nat.reduceEqDiff, Nat.reduceShiftLeft, Nat.reduceShiftRight, Nat.reduceOr, Nat.reduceAnd, Nat.reducePow, Nat.reduceSucc, Int.reduceToNat, Int.reduceAdd, Int.reduceSub, Int.reduceMul, Int.reduceNeg, Int.reduceTMod, Int.reduceTDiv, Int.reduceDiv, Int.reduceMod, Int.reducePow, Int.reduceLT, Int.reduceLE, Int.reduceEq, Int.reduceBEq, Int.reduceBNe, Int.reduceNe, reduceIte, reduceCtorEq, Int.cast_ofNat_Int, implies_true, forall_const, h1, h2, h3, h4, h6, g1, g2, g3, g4, ih]
      simp only [h5, g5, List.cons.injEq, h7, true_and, false_and, decide_false]
    · have h7 : ¬ l[i] = m[i] := by simpa using h6
      simp (maxSteps := 1000000) -implicitDefEqProofs only [go_sem, Nat.reduceAdd, Nat.reduceMul, Nat.reduceSub, Nat.reduceDiv, Nat.reduceMod, Nat.reduceLT, Nat.reduceLeDiff, Nat.reduceBEq, Nat.reduceBNe, Nat.reduceEqDiff, Nat.reduceShiftLeft, Nat.reduceShiftRight, Nat.reduceOr, Nat.reduceAnd, Nat.reducePow, Nat.reduceSucc, Int.reduceToNat, Int.reduceAdd, Int.reduceSub, Int.reduceMul, Int.reduceNeg, Int.reduceTMod, Int.reduceTDiv, Int.reduceDiv, Int.reduceMod, Int.reducePow, Int.reduceLT, Int.reduceLE, Int.reduceEq, Int.reduceBEq, Int.reduceBNe, Int.reduceNe, reduceIte, reduceCtorEq, Int.cast_ofNat_Int, implies_true, forall_const, h1, h2, h3, h4, h6, g1, g2, g3, g4]
      simp only [h5, g5, List.cons.injEq, h7, true_and, false_and, decide_false]
theorem c89 (b c : Bool) (l m : List Int) (hb : l.length < 4611686018427387904) : (lim T).call 89 [.sl b 1 (l.map fun n => .int .i64 n), .sl c 1 (m.map fun n => .int .i64 n)] [] 0 [] = some (.bool (decide (l = m)), [], 0, []) := by
  rw [ent89]
  cases h : ((l.length : Int) != m.length)
  · have h1 : l.length = m.length := by simp at h; omega
    have h2 := loop89 b c l m hb h1 0 (by omega)
    rw [show ((0 : Nat) : Int) = 0 from rfl, List.drop_zero, List.drop_zero] at h2
    simp (maxSteps := 1000000) -implicitDefEqProofs only [go_sem, Nat.reduceAdd, Nat.reduceMul, Nat.reduceSub, Nat.reduceDiv, Nat.reduceMod, Nat.reduceLT, Nat.reduceLeDiff, Nat.reduceBEq, Nat.reduceBNe, Nat.reduceEqDiff, Nat.reduceShiftLeft, Nat.reduceShiftRight, Nat.reduceOr, Nat.reduceAnd, Nat.reducePow, Nat.reduceSucc, Int.reduceToNat, Int.reduceAdd, Int.reduceSub, Int.reduceMul, Int.reduceNeg, Int.reduceTMod, Int.reduceTDiv, Int.reduceDiv, Int.reduceMod, Int.reducePow, Int.reduceLT, Int.reduceLE, Int.reduceEq, Int.reduceBEq, Int.reduceBNe, Int.reduceNe, reduceIte, reduceCtorEq, Int.cast_ofNat_Int, implies_true, forall_const, h, h2]
  · have h1 : ¬ l.length = m.length := by simp at h; omega
    simp (maxSteps := 1000000) -implicitDefEqProofs only [go_sem, Nat.reduceAdd, Nat.reduceMul, Nat.reduceSub, Nat.reduceDiv, Nat.reduceMod, Nat.reduceLT, Nat.reduceLeDiff, Nat.reduceBEq, Nat.reduceBNe, Nat.reduceEqDiff, Nat.reduceShiftLeft, Nat.reduceShiftRight, Nat.reduceOr, Nat.reduceAnd, Nat.reducePow, Nat.reduceSucc, Int.reduceToNat, Int.reduceAdd, Int.reduceSub, Int.reduceMul, Int.reduceNeg, Int.reduceTMod, Int.reduceTDiv, Int.reduceDiv, Int.reduceMod, Int.reducePow, Int.reduceLT, Int.reduceLE, Int.reduceEq, Int.reduceBEq, Int.reduceBNe, Int.reduceNe, reduceIte, reduceCtorEq, Int.cast_ofNat_Int, implies_true, forall_const, h]
    have : ¬ l = m := fun e => h1 (by rw [e])
    simp [this]
theorem c89n (b : Bool) (l : List Int) (hb : l.length < 4611686018427387904) : (lim T).call 89 [.sl b 1 (l.map fun n => .int .i64 n), .sl false 0 []] [] 0 [] = some (.bool (decide (l = [])), [], 0, []) := by
  rw [ent89]
  cases l with
  | nil =>
    simp (maxSteps := 1000000) -implicitDefEqProofs only [go_sem, Nat.reduceAdd, Nat.reduceMul, Nat.reduceSub, Nat.reduceDiv, Nat.reduceMod, Nat.reduceLT, Nat.reduceLeDiff, Nat.reduceBEq, Nat.reduceBNe, Nat.reduceEqDiff, Nat.reduceShiftLeft, Nat.reduceShiftRight, Nat.reduceOr, Nat.reduceAnd, Nat.reducePow, Nat.reduceSucc, Int.reduceToNat, Int.reduceAdd, Int.reduceSub, Int.reduceMul, Int.reduceNeg, Int.reduceTMod, Int.reduceTDiv, Int.reduceDiv, Int.reduceMod, Int.reducePow, Int.reduceLT, Int.reduceLE, Int.reduceEq, Int.reduceBEq, Int.reduceBNe, Int.reduceNe, reduceIte, reduceCtorEq, Int.cast_ofNat_Int, implies_true, forall_const]
    rw [loopEq]
    simp (maxSteps := 1000000) -implicitDefEqProofs only [go_sem, Nat.reduceAdd, Nat.reduceMul, Nat.reduceSub, Nat.reduceDiv, Nat.reduceMod, Nat.reduceLT, Nat.reduceLeDiff, Nat.reduceBEq, Nat.reduceBNe, Nat.reduceEqDiff, Nat.reduceShiftLeft, Nat.reduceShiftRight, Nat.reduceOr, Nat.reduceAnd, Nat.reducePow, Nat.reduceSucc, Int.reduceToNat, Int.reduceAdd, Int.reduceSub, Int.reduceMul, Int.reduceNeg, Int.reduceTMod, Int.reduceTDiv, Int.reduceDiv, Int.reduceMod, Int.reducePow, Int.reduceLT, Int.reduceLE, Int.reduceEq, Int.reduceBEq, Int.reduceBNe, Int.reduceNe, reduceIte, reduceCtorEq, Int.cast_ofNat_Int, implies_true, forall_const]
  | cons x l =>
    have h : (((l.length + 1 : Nat) : Int) != 0) = true := by simp; omega
    simp (maxSteps := 1000000) -implicitDefEqProofs only [go_sem, Nat.reduceAdd, Nat.reduceMul, Nat.reduceSub, Nat.reduceDiv, Nat.reduceMod, Nat.reduceLT, Nat.reduceLeDiff, Nat.reduceBEq, Nat.reduceBNe, Nat.reduceEqDiff, Nat.reduceShiftLeft, Nat.reduceShiftRight, Nat.reduceOr, Nat.reduceAnd, Nat.reducePow, Nat.reduceSucc, Int.reduceToNat, Int.reduceAdd, Int.reduceSub, Int.reduceMul, Int.reduceNeg, Int.reduceTMod, Int.reduceTDiv, Int.reduceDiv, Int.reduceMod, Int.reducePow, Int.reduceLT, Int.reduceLE, Int.reduceEq, Int.reduceBEq, Int.reduceBNe, Int.reduceNe, reduceIte, reduceCtorEq, Int.cast_ofNat_Int, implies_true, forall_const, h]
    try simp
theorem c24 (b c : Bool) (l m : List Int) (e bad : Int) (hb : l.length < 4611686018427387904) : (lim T).call 24 [.sl b 1 (l.map fun n => .int .i64 n), .int .i64 e, .int .i64 bad, .sl c 1 (m.map fun n => .int .i64 n)] [] 0 [] =
    some (.bool (decide (l = (if bad = 0 then m else [])) && (e == bad)), [], 0, []) := by
  rw [ent24]
  cases h : (bad != 0)
  · have h1 : bad = 0 := by simpa using h
    rw [if_pos h1]
    cases h2 : decide (l = m)
    · simp (maxSteps := 1000000) -implicitDefEqProofs only [go_sem, Nat.reduceAdd, Nat.reduceMul, Nat.reduceSub, Nat.reduceDiv, Nat.reduceMod, Nat.reduceLT, Nat.reduceLeDiff, Nat.reduceBEq, Nat.reduceBNe, Nat.reduceEqDiff, Nat.reduceShiftLeft, Nat.reduceShiftRight, Nat.reduceOr, Nat.reduceAnd, Nat.reducePow, Nat.reduceSucc, Int.reduceToNat, Int.reduceAdd, Int.reduceSub, Int.reduceMul, Int.reduceNeg, Int.reduceTMod, Int.reduceTDiv, Int.reduceDiv, Int.reduceMod, Int.reducePow, Int.reduceLT, Int.reduceLE, Int.reduceEq, Int.reduceBEq, Int.reduceBNe, Int.reduceNe, reduceIte, reduceCtorEq, Int.cast_ofNat_Int, implies_true, forall_const, h, c89 b c l m hb, h2]
    · simp (maxSteps := 1000000) -implicitDefEqProofs only [go_sem, Nat.reduceAdd, Nat.reduceMul, Nat.reduceSub, Nat.reduceDiv, Nat.reduceMod, Nat.reduceLT, Nat.reduceLeDiff, Nat.reduceBEq, Nat.reduceBNe, Nat.reduceEqDiff, Nat.reduceShiftLeft, Nat.reduceShiftRight, Nat.reduceOr, Nat.reduceAnd, Nat.reducePow, Nat.reduceSucc, Int.reduceToNat, Int.reduceAdd, Int.reduceSub, Int.reduceMul, Int.reduceNeg, Int.reduceTMod, Int.reduceTDiv, Int.reduceDiv, Int.reduceMod, Int.reducePow, Int.reduceLT, Int.reduceLE, Int.reduceEq, Int.reduceBEq, Int.reduceBNe, Int.reduceNe, reduceIte, reduceCtorEq, Int.cast_ofNat_Int, implies_true, forall_const, h, c89 b c l m hb, h2]
  · have h1 : ¬ bad = 0 := by simpa using h
    rw [if_neg h1]
    have h3 := c89n b l hb
    cases h2 : decide (l = [])
    · simp (maxSteps := 1000000) -implicitDefEqProofs only [go_sem, Nat.reduceAdd, Nat.reduceMul, Nat.reduceSub, Nat.reduceDiv, Nat.reduceMod, Nat.reduceLT, Nat.reduceLeDiff, Nat.reduceBEq, Nat.reduceBNe, Nat.reduceEqDiff, Nat.reduceShiftLeft, Nat.reduceShiftRight, Nat.reduceOr, Nat.reduceAnd, Nat.reducePow, Nat.reduceSucc, Int.reduceToNat, Int.reduceAdd, Int.reduceSub, Int.reduceMul, Int.reduceNeg, Int.reduceTMod, Int.reduceTDiv, Int.reduceDiv, Int.reduceMod, Int.reducePow, Int.reduceLT, Int.reduceLE, Int.reduceEq, Int.reduceBEq, Int.reduceBNe, Int.reduceNe, reduceIte, reduceCtorEq, Int.cast_ofNat_Int, implies_true, forall_const, h, h3, h2]
    · simp (maxSteps := 1000000) -implicitDefEqProofs only [go_sem, Nat.reduceAdd, Nat.reduceMul, Nat.reduceSub, Nat.reduceDiv, Nat.reduceMod, Nat.reduceLT, Nat.reduceLeDiff, Nat.reduceBEq, Nat.reduceBNe, Nat.reduceEqDiff, Nat.reduceShiftLeft, Nat.reduceShiftRight, Nat.reduceOr, Nat.reduceAnd, Nat.reducePow, Nat.reduceSucc, Int.reduceToNat, Int.reduceAdd, Int.reduceSub, Int.reduceMul, Int.reduceNeg, Int.reduceTMod, Int.reduceTDiv, Int.reduceDiv, Int.reduceMod, Int.reducePow, Int.reduceLT, Int.reduceLE, Int.reduceEq, Int.reduceBEq, Int.reduceBNe, Int.reduceNe, reduceIte, reduceCtorEq, Int.cast_ofNat_Int, implies_true, forall_const, h, h3, h2]
end Go.Den.FaT

namespace Go.Den.FaT
open Go Go.Proofs Go.Den
set_option linter.unusedVariables false
set_option linter.unusedSimpArgs false
set_option maxRecDepth 100000

def tr (n x y : Int) : Int × Int := if n = 0 then (x, y) else if n = 1 then (0 - y, x) else if n = 2 then (0 - x, 0 - y) else (y, 0 - x)
def cry (n sx sy x y : Int) : Int × Int := ((tr n x y).1 + sx, (tr n x y).2 + sy)
def bnd (b : Int) (p : Int × Int) : Prop := -b ≤ p.1 ∧ p.1 ≤ b ∧ -b ≤ p.2 ∧ p.2 ≤ b
theorem tr_bnd (n : Int) {b : Int} {p : Int × Int} (h : bnd b p) : bnd b (tr n p.1 p.2) := by
  unfold bnd at *
  unfold tr
  split
  · exact h
  · split
    · dsimp only; omega
    · split <;> (dsimp only; omega)
theorem trn_tr (n : Int) {p : Int × Int} (h : bnd 1000000 p) : trn n p.1 p.2 = tr n p.1 p.2 := by
  unfold bnd at h
  unfold trn tr
  rw [wrap64 (n := 0 - p.1) (by omega) (by omega), wrap64 (n := 0 - p.2) (by omega) (by omega)]
theorem rot_tr (n : Int) (hn : 0 ≤ n ∧ n ≤ 3) {p : Int × Int} (h : bnd 1000000 p) : rot n.toNat p = tr n p.1 p.2 := by
  unfold bnd at h
  have w1 := wrap64 (n := 0 - p.1) (by omega) (by omega)
  have w2 := wrap64 (n := 0 - p.2) (by omega) (by omega)
  have w3 := wrap64 (n := 0 - (0 - p.2)) (by omega) (by omega)
  have h3 : n = 0 ∨ n = 1 ∨ n = 2 ∨ n = 3 := by omega
  rcases h3 with rfl | rfl | rfl | rfl
  · simp [rot, tr]
  · simp only [show (1 : Int).toNat = 1 from rfl, rot, w2]; rfl
  · simp only [show (2 : Int).toNat = 2 from rfl, rot, w2, w1]; rfl
  · simp only [show (3 : Int).toNat = 3 from rfl, rot, w2, w1, w3]
    simp [tr]
theorem c71' (n sx sy x y : Int) (h : 0 ≤ n ∧ n ≤ 3) (hs : bnd 1000000 (sx, sy)) (hp : bnd 1000000 (x, y)) : (lim T).call 71 [.agg [.int .i64 n, .int .i64 sx, .int .i64 sy], .agg [.int .i64 x, .int .i64 y]] [] 0 [] =
    some (.agg [.int .i64 (cry n sx sy x y).1, .int .i64 (cry n sx sy x y).2], [], 0, []) := by
  rw [c71 n sx sy x y h, rot_tr n h hp]
  have := tr_bnd n hp
  unfold bnd at this hs
  dsimp only at this hs ⊢
  rw [wrap64 (by omega) (by omega), wrap64 (by omega) (by omega)]
  rfl
theorem c162' (n sx sy x y : Int) (h : 0 ≤ n ∧ n ≤ 3) (hs : bnd 1000000 (sx, sy)) (hp : bnd 1000000 (x, y)) : (lim T).call 162 [.agg [.int .i64 n, .int .i64 sx, .int .i64 sy], .agg [.int .i64 x, .int .i64 y]] [] 0 [] =
    some (.agg [.int .i64 (cry n sx sy x y).1, .int .i64 (cry n sx sy x y).2], [], 0, []) := by
  rw [c162 n sx sy x y h]
  unfold carr
  rw [trn_tr n hp]
  have := tr_bnd n hp
  unfold bnd at this hs
  dsimp only at this hs ⊢
  rw [wrap64 (by omega) (by omega), wrap64 (by omega) (by omega)]
  rfl
theorem c164' (n x y : Int) (h : 0 ≤ n ∧ n ≤ 3) (hp : bnd 1000000 (x, y)) : (lim T).call 164 [.agg [.int .i64 x, .int .i64 y], .int .i64 n] [] 0 [] = some (.agg [.int .i64 (tr n x y).1, .int .i64 (tr n x y).2], [], 0, []) := by
  rw [c164 n x y (by omega), rot_tr n h hp]

/-- the marks that agree -/
def agr (n sx sy : Int) : Nat → List (Int × Int) → List (Int × Int) → List Int
  | j, p :: ps, q :: qs => if cry n sx sy p.1 p.2 = q then (j : Int) :: agr n sx sy (j + 1) ps qs else agr n sx sy (j + 1) ps qs
  | _, _, _ => []
theorem agr_len (n sx sy : Int) : ∀ (j : Nat) (ps qs : List (Int × Int)), (agr n sx sy j ps qs).length ≤ ps.length := by
  intro j ps
  induction ps generalizing j with
  | nil => intro qs; simp [agr]
  | cons p ps ih =>
    intro qs
    cases qs with
    | nil => simp [agr]
    | cons q qs =>
      simp only [agr]
      split
      · have := ih (j + 1) qs; simp; omega
      · have := ih (j + 1) qs; simp; omega

theorem loop166 (b c : Bool) (n sx sy : Int) (l m : List (Int × Int)) (hb : l.length < 1000) (hm : l.length = m.length) (hn : 0 ≤ n ∧ n ≤ 3) (hs : bnd 1000000 (sx, sy)) (hp : ∀ p ∈ l, bnd 1000000 p) : ∀ i, i ≤ l.length → ∀ o : Option (List Int), acL o ≤ i →
    (lim T).loop false [.code (.loop b166_0), .inBlock 0, .code (.seq r166_7 .ret)] ⟨166, 31, 0, [(1, .sl b 2 (l.map fun p => .agg [.int .i64 p.1, .int .i64 p.2])), (2, .sl c 2 (m.map fun p => .agg [.int .i64 p.1, .int .i64 p.2])), (3, .ptr 0 0 0), (7, acV o 1), (8, .int .i64 i)], .cells true true 102 [.agg [.int .i64 n, .int .i64 sx, .int .i64 sy]] :: acR (fun n => .int .i64 n) o 3, 0, []⟩ =
      some (.ret (acO (fun n => .int .i64 n) 0 1 (acA o (agr n sx sy i (l.drop i) (m.drop i)))), [], 0, []) := by
  refine down_ind l.length ?_ fun i hi ih o ho => ?_
  · intro o ho
    rw [loopEq]
    have h1 := idx_out l.length
    have h0 : l.drop l.length = [] := by simp
    cases o with
    | none =>
      simp (maxSteps := 1000000) -implicitDefEqProofs only [go_sem, Nat.reduceAdd, Nat.reduceMul, Nat.reduceSub, Nat.reduceDiv, Nat.reduceMod, Nat.reduceLT, Nat.reduceLeDiff, Nat.reduceBEq, Nat.reduceBNe, Nat.reduceEqDiff, Nat.reduceShiftLeft, Nat.reduceShiftRight, Nat.reduceOr, Nat.reduceAnd, Nat.reducePow, Nat.reduceSucc, Int.reduceToNat, Int.reduceAdd, Int.reduceSub, Int.reduceMul, Int.reduceNeg, Int.reduceTMod, Int.reduceTDiv, Int.reduceDiv, Int.reduceMod, Int.reducePow, Int.reduceLT, Int.reduceLE, Int.reduceEq, Int.reduceBEq, Int.reduceBNe, Int.reduceNe, reduceIte, reduceCtorEq, Int.cast_ofNat_Int, implies_true, forall_const, h1, h0]
      simp [acA, acO, agr]
    | some a =>
      simp (maxSteps := 1000000) -implicitDefEqProofs only [go_sem, Nat.reduceAdd, Nat.reduceMul, Nat.reduceSub, Nat.reduceDiv, Nat.reduceMod, Nat.reduceLT, Nat.reduceLeDiff, Nat.reduceBEq, Nat.reduceBNe, Nat.reduceEqDiff, Nat.reduceShiftLeft, Nat.reduceShiftRight, Nat.reduceOr, Nat.reduceAnd, Nat.reducePow, Nat.reduceSucc, Int.reduceToNat, Int.reduceAdd, Int.reduceSub, Int.reduceMul, Int.reduceNeg, Int.reduceTMod, Int.reduceTDiv, Int.reduceDiv, Int.reduceMod, Int.reducePow, Int.reduceLT, Int.reduceLE, Int.reduceEq, Int.reduceBEq, Int.reduceBNe, Int.reduceNe, reduceIte, reduceCtorEq, Int.cast_ofNat_Int, implies_true, forall_const, h1, h0]
      simp [acA, acO, agr]
  · obtain ⟨h1, h2, h3, h4, h5⟩ := idx_in hi (by omega)
    obtain ⟨g1, g2, g3, g4, g5⟩ := idx_in (l := m) (i := i) (by omega) (by omega)
    rw [loopEq, h5, g5]
    have hpi : bnd 1000000 (l[i].1, l[i].2) := hp _ (List.getElem_mem hi)
    have hc := c71' n sx sy l[i].1 l[i].2 hn hs hpi
    simp only [agr]
    cases h6 : ((cry n sx sy l[i].1 l[i].2).1 == m[i].1 && (cry n sx sy l[i].1 l[i].2).2 == m[i].2)
    · have h7 : ¬ cry n sx sy l[i].1 l[i].2 = m[i] := by
        intro e; rw [e] at h6; simp at h6
      rw [if_neg h7]
      have ih' := ih o (by omega)
      cases o with
      | none =>
        simp only [acV_n, acR_n] at ih'
        simp (maxSteps := 1000000) -implicitDefEqProofs only [go_sem, Nat.reduceAdd, Nat.reduceMul, Nat.reduceSub, Nat.reduceDiv, Nat.reduceMod, Nat.reduceLT, Nat.reduceLeDiff, Nat.reduceBEq, Nat.reduceBNe, Nat.reduceEqDiff, Nat.reduceShiftLeft, Nat.reduceShiftRight, Nat.reduceOr, Nat.reduceAnd, Nat.reducePow, Nat.reduceSucc, Int.reduceToNat, Int.reduceAdd, Int.reduceSub, Int.reduceMul, Int.reduceNeg, Int.reduceTMod, Int.reduceTDiv, Int.reduceDiv, Int.reduceMod, Int.reducePow, Int.reduceLT, Int.reduceLE, Int.reduceEq, Int.reduceBEq, Int.reduceBNe, Int.reduceNe, reduceIte, reduceCtorEq, Int.cast_ofNat_Int, implies_true, forall_const, h1, h2, h3, h4, g1, g2, g3, g4, ih', hc, h6]
      | some a =>
        simp only [acV_s, acR_s] at ih'
        simp (maxSteps := 1000000) -implicitDefEqProofs only [go_sem, Nat.reduceAdd, Nat.reduceMul, Nat.reduceSub, Nat.reduceDiv, Nat.reduceMod, Nat.reduceLT, Nat.reduceLeDiff, Nat.reduceBEq, Nat.reduceBNe, Nat.reduceEqDiff, Nat.reduceShiftLeft, Nat.reduceShiftRight, Nat.reduceOr, Nat.reduceAnd, Nat.reducePow, Nat.reduceSucc, Int.reduceToNat, Int.reduceAdd, Int.reduceSub, Int.reduceMul, Int.reduceNeg, Int.reduceTMod, Int.reduceTDiv, Int.reduceDiv, Int.reduceMod, Int.reducePow, Int.reduceLT, Int.reduceLE, Int.reduceEq, Int.reduceBEq, Int.reduceBNe, Int.reduceNe, reduceIte, reduceCtorEq, Int.cast_ofNat_Int, implies_true, forall_const, h1, h2, h3, h4, g1, g2, g3, g4, ih', hc, h6]
    · have h7 : cry n sx sy l[i].1 l[i].2 = m[i] := by
        simp at h6; exact Prod.ext h6.1 h6.2
      rw [if_pos h7]
      have ih' := ih (acA o [(i : Int)]) (by rw [acL_A]; simp; omega)
      rw [acA_acA] at ih'
      cases o with
      | none =>
        have h8 := row_ok (n := 0) (by omega)
        simp only [acA_n, acV_s, acR_s, List.map_cons, List.map_nil] at ih'
        simp (maxSteps := 1000000) -implicitDefEqProofs only [go_sem, Nat.reduceAdd, Nat.reduceMul, Nat.reduceSub, Nat.reduceDiv, Nat.reduceMod, Nat.reduceLT, Nat.reduceLeDiff, Nat.reduceBEq, Nat.reduceBNe, Nat.reduceEqDiff, Nat.reduceShiftLeft, Nat.reduceShiftRight, Nat.reduceOr, Nat.reduceAnd, Nat.reducePow, Nat.reduceSucc, Int.reduceToNat, Int.reduceAdd, Int.reduceSub, Int.reduceMul, Int.reduceNeg, Int.reduceTMod, Int.reduceTDiv, Int.reduceDiv, Int.reduceMod, Int.reducePow, Int.reduceLT, Int.reduceLE, Int.reduceEq, Int.reduceBEq, Int.reduceBNe, Int.reduceNe, reduceIte, reduceCtorEq, Int.cast_ofNat_Int, implies_true, forall_const, h1, h2, h3, h4, g1, g2, g3, g4, ih', hc, h6, h8.2]
      | some a =>
        have h9 : a.length ≤ i := ho
        have h8 := (row_ok (n := a.length) (by omega)).1
        simp only [acA_s, acV_s, acR_s, List.map_append, List.map_cons, List.map_nil] at ih'
        simp (maxSteps := 1000000) -implicitDefEqProofs only [go_sem, Nat.reduceAdd, Nat.reduceMul, Nat.reduceSub, Nat.reduceDiv, Nat.reduceMod, Nat.reduceLT, Nat.reduceLeDiff, Nat.reduceBEq, Nat.reduceBNe, Nat.reduceEqDiff, Nat.reduceShiftLeft, Nat.reduceShiftRight, Nat.reduceOr, Nat.reduceAnd, Nat.reducePow, Nat.reduceSucc, Int.reduceToNat, Int.reduceAdd, Int.reduceSub, Int.reduceMul, Int.reduceNeg, Int.reduceTMod, Int.reduceTDiv, Int.reduceDiv, Int.reduceMod, Int.reducePow, Int.reduceLT, Int.reduceLE, Int.reduceEq, Int.reduceBEq, Int.reduceBNe, Int.reduceNe, reduceIte, reduceCtorEq, Int.cast_ofNat_Int, implies_true, forall_const, h1, h2, h3, h4, g1, g2, g3, g4, ih', hc, h6, h8]
theorem c166 (b c : Bool) (n sx sy : Int) (l m : List (Int × Int)) (hb : l.length < 1000) (hm : l.length = m.length) (hn : 0 ≤ n ∧ n ≤ 3) (hs : bnd 1000000 (sx, sy)) (hp : ∀ p ∈ l, bnd 1000000 p) :
    (lim T).call 166 [.agg [.int .i64 n, .int .i64 sx, .int .i64 sy], .sl b 2 (l.map fun p => .agg [.int .i64 p.1, .int .i64 p.2]), .sl c 2 (m.map fun p => .agg [.int .i64 p.1, .int .i64 p.2])] [] 0 [] =
      some (slV 1 ((agr n sx sy 0 l m).map fun n => .int .i64 n), [], 0, []) := by
  rw [ent166]
  have h := loop166 b c n sx sy l m hb hm hn hs hp 0 (by omega) none (Nat.le_refl _)
  rw [show ((0 : Nat) : Int) = 0 from rfl, List.drop_zero, List.drop_zero, acO_slV] at h
  simp only [acV_n, acR_n] at h
  simp (maxSteps := 1000000) -implicitDefEqProofs only [go_sem, Nat.reduceAdd, Nat.reduceMul, Nat.reduceSub, Nat.reduceDiv, Nat.reduceMod, Nat.reduceLT, Nat.reduceLeDiff, Nat.reduceBEq, Nat.reduceBNe, Nat.reduceEqDiff, Nat.reduceShiftLeft, Nat.reduceShiftRight, Nat.reduceOr, Nat.reduceAnd, Nat.reducePow, Nat.reduceSucc, Int.reduceToNat, Int.reduceAdd, Int.reduceSub, Int.reduceMul, Int.reduceNeg, Int.reduceTMod, Int.reduceTDiv, Int.reduceDiv, Int.reduceMod, Int.reducePow, Int.reduceLT, Int.reduceLE, Int.reduceEq, Int.reduceBEq, Int.reduceBNe, Int.reduceNe, reduceIte, reduceCtorEq, Int.cast_ofNat_Int, implies_true, forall_const, h]
end Go.Den.FaT

namespace Go.Den.FaT
open Go Go.Proofs Go.Den
set_option linter.unusedVariables false
set_option linter.unusedSimpArgs false
set_option maxRecDepth 100000

structure FrS where
  n : Int
  x : Int
  y : Int
  l : List Int
def candX (n : Int) (p q : Int × Int) : Int := q.1 - (tr n p.1 p.2).1
def candY (n : Int) (p q : Int × Int) : Int := q.2 - (tr n p.1 p.2).2
def stp (n : Int) (l m : List (Int × Int)) (p q : Int × Int) (s : FrS) : FrS :=
  if ckF n (candX n p q) (candY n p q) = 0 then
    if s.l.length < (agr n (candX n p q) (candY n p q) 0 l m).length then ⟨n, candX n p q, candY n p q, agr n (candX n p q) (candY n p q) 0 l m⟩ else s
  else s
def inn (n : Int) (l m : List (Int × Int)) : List (Int × Int) → List (Int × Int) → FrS → FrS
  | p :: ps, q :: qs, s => inn n l m ps qs (stp n l m p q s)
  | _, _, s => s
def frm (l m : List (Int × Int)) : FrS := inn 3 l m l m (inn 2 l m l m (inn 1 l m l m (inn 0 l m l m ⟨0, 0, 0, []⟩)))
theorem ckF_bnd {n x y : Int} (h : ckF n x y = 0) : (0 ≤ n ∧ n ≤ 3) ∧ bnd 1000 (x, y) := by
  simp only [ckF, ckP, fnz, rng_eq] at h
  unfold bnd
  by_cases h1 : n < 0 ∨ 3 < n
  · simp [h1] at h
  · by_cases h2 : x < -1000 ∨ 1000 < x
    · simp [h1, h2] at h
    · by_cases h3 : y < -1000 ∨ 1000 < y
      · simp [h1, h2, h3] at h
      · dsimp only; omega

theorem bnd_mono {a b : Int} (hab : a ≤ b) {p : Int × Int} (h : bnd a p) : bnd b p := by unfold bnd at *; omega

set_option maxHeartbeats 2000000 in
theorem loop74i (b c : Bool) (n : Int) (l m : List (Int × Int)) (hb : l.length < 1000) (hm : l.length = m.length) (hn : 0 ≤ n ∧ n ≤ 3) (hl : ∀ p ∈ l, bnd 1000 p) (hq : ∀ p ∈ m, bnd 1000 p) : ∀ i, i ≤ l.length → ∀ s : FrS,
    (lim T).loop false [.code (.loop b74_1), .inBlock 2, .inBlock 1, .code r74_5, .inLoop b74_0, .inBlock 0, .code (.seq r74_15 .ret)] ⟨74, 69, 0, [(0, .sl b 2 (l.map fun p => .agg [.int .i64 p.1, .int .i64 p.2])), (1, .sl c 2 (m.map fun p => .agg [.int .i64 p.1, .int .i64 p.2])), (4, .ptr 0 0 0), (7, .ptr 1 0 0), (8, slV 1 (s.l.map fun n => .int .i64 n)), (9, .int .i64 n), (10, .int .i64 i)],
        [.cells true true 102 [.agg [.int .i64 0, .int .i64 0, .int .i64 0]], .cells true true 102 [.agg [.int .i64 s.n, .int .i64 s.x, .int .i64 s.y]]], 0, []⟩ =
    (lim T).loop false [.code (.loop b74_1), .inBlock 2, .inBlock 1, .code r74_5, .inLoop b74_0, .inBlock 0, .code (.seq r74_15 .ret)] ⟨74, 69, 0, [(0, .sl b 2 (l.map fun p => .agg [.int .i64 p.1, .int .i64 p.2])), (1, .sl c 2 (m.map fun p => .agg [.int .i64 p.1, .int .i64 p.2])), (4, .ptr 0 0 0), (7, .ptr 1 0 0), (8, slV 1 ((inn n l m (l.drop i) (m.drop i) s).l.map fun n => .int .i64 n)), (9, .int .i64 n), (10, .int .i64 l.length)],
        [.cells true true 102 [.agg [.int .i64 0, .int .i64 0, .int .i64 0]], .cells true true 102 [.agg [.int .i64 (inn n l m (l.drop i) (m.drop i) s).n, .int .i64 (inn n l m (l.drop i) (m.drop i) s).x, .int .i64 (inn n l m (l.drop i) (m.drop i) s).y]]], 0, []⟩ := by
  refine down_ind l.length ?_ fun i hi ih s => ?_
  · intro s
    have h0 : l.drop l.length = [] := by simp
    rw [h0]; rfl
  · obtain ⟨h1, h2, h3, h4, h5⟩ := idx_in hi (by omega)
    obtain ⟨g1, g2, g3, g4, g5⟩ := idx_in (l := m) (i := i) (by omega) (by omega)
    conv => lhs; rw [loopEq]
    rw [h5, g5]
    simp only [inn]
    have hpi : bnd 1000 (l[i].1, l[i].2) := hl _ (List.getElem_mem hi)
    have hqi : bnd 1000 m[i] := hq _ (List.getElem_mem (by omega))
    have ht := tr_bnd n hpi
    have hc := c164' n l[i].1 l[i].2 hn (bnd_mono (by omega) hpi)
    have hX : IntKind.i64.wrap (m[i].1 - (tr n l[i].1 l[i].2).1) = candX n l[i] m[i] := by
      unfold bnd at ht hqi; dsimp only at ht hqi; rw [wrap64 (by omega) (by omega)]; rfl
    have hY : IntKind.i64.wrap (m[i].2 - (tr n l[i].1 l[i].2).2) = candY n l[i] m[i] := by
      unfold bnd at ht hqi; dsimp only at ht hqi; rw [wrap64 (by omega) (by omega)]; rfl
    cases h6 : (ckF n (candX n l[i] m[i]) (candY n l[i] m[i]) != 0)
    · have h7 : ckF n (candX n l[i] m[i]) (candY n l[i] m[i]) = 0 := by simpa using h6
      obtain ⟨_, hs⟩ := ckF_bnd h7
      have ha := c166 b c n _ _ l m hb hm hn (bnd_mono (by omega) hs) (fun p hp => bnd_mono (by omega) (hl p hp))
      cases h8 : decide (((s.l.length : Nat) : Int) < (((agr n (candX n l[i] m[i]) (candY n l[i] m[i]) 0 l m).length : Nat) : Int))
      · have h9 : ¬ s.l.length < (agr n (candX n l[i] m[i]) (candY n l[i] m[i]) 0 l m).length := by simp at h8; omega
        have e : stp n l m l[i] m[i] s = s := by unfold stp; rw [if_pos h7, if_neg h9]
        rw [e]
        have ih' := ih s
        simp (maxSteps := 1000000) -implicitDefEqProofs only [go_sem, Nat.reduceAdd, Nat.reduceMul, Nat.reduceSub, Nat.reduceDiv, Nat.reduceMod, Nat.reduceLT, Nat.reduceLeDiff, Nat.reduceBEq, Nat.reduceBNe, Nat.reduceEqDiff, Nat.reduceShiftLeft, Nat.reduceShiftRight, Nat.reduceOr, Nat.reduceAnd, Nat.reducePow, Nat.reduceSucc, Int.reduceToNat, Int.reduceAdd, Int.reduceSub, Int.reduceMul, Int.reduceNeg, Int.reduceTMod, Int.reduceTDiv, Int.reduceDiv, Int.reduceMod, Int.reducePow, Int.reduceLT, Int.reduceLE, Int.reduceEq, Int.reduceBEq, Int.reduceBNe, Int.reduceNe, reduceIte, reduceCtorEq, Int.cast_ofNat_Int, implies_true, forall_const, h1, h2, h3, h4, g1, g2, g3, g4, ih', hc, hX, hY, h6, c69, ha, h8]
      · have h9 : s.l.length < (agr n (candX n l[i] m[i]) (candY n l[i] m[i]) 0 l m).length := by simp at h8; omega
        have e : stp n l m l[i] m[i] s = ⟨n, candX n l[i] m[i], candY n l[i] m[i], agr n (candX n l[i] m[i]) (candY n l[i] m[i]) 0 l m⟩ := by unfold stp; rw [if_pos h7, if_pos h9]
        rw [e]
        have ih' := ih ⟨n, candX n l[i] m[i], candY n l[i] m[i], agr n (candX n l[i] m[i]) (candY n l[i] m[i]) 0 l m⟩
        have hne : (agr n (candX n l[i] m[i]) (candY n l[i] m[i]) 0 l m).map (fun n => V.int .i64 n) ≠ [] := by
          intro e; have := congrArg List.length e; simp at this; rw [this] at h9; simp at h9
        have hem : ((agr n (candX n l[i] m[i]) (candY n l[i] m[i]) 0 l m).map (fun n => V.int .i64 n)).isEmpty = false := by
          cases hq : (agr n (candX n l[i] m[i]) (candY n l[i] m[i]) 0 l m).map (fun n => V.int .i64 n) with
          | nil => exact absurd hq hne
          | cons x r => rfl
        dsimp only at ih'
        conv at ih' => lhs; rw [slV_ne _ _ hne]
        simp (maxSteps := 1000000) -implicitDefEqProofs only [go_sem, Nat.reduceAdd, Nat.reduceMul, Nat.reduceSub, Nat.reduceDiv, Nat.reduceMod, Nat.reduceLT, Nat.reduceLeDiff, Nat.reduceBEq, Nat.reduceBNe, Nat.reduceEqDiff, Nat.reduceShiftLeft, Nat.reduceShiftRight, Nat.reduceOr, Nat.reduceAnd, Nat.reducePow, Nat.reduceSucc, Int.reduceToNat, Int.reduceAdd, Int.reduceSub, Int.reduceMul, Int.reduceNeg, Int.reduceTMod, Int.reduceTDiv, Int.reduceDiv, Int.reduceMod, Int.reducePow, Int.reduceLT, Int.reduceLE, Int.reduceEq, Int.reduceBEq, Int.reduceBNe, Int.reduceNe, reduceIte, reduceCtorEq, Int.cast_ofNat_Int, implies_true, forall_const, h1, h2, h3, h4, g1, g2, g3, g4, ih', hc, hX, hY, h6, c69, ha, h8, hem]
    · have h7 : ¬ ckF n (candX n l[i] m[i]) (candY n l[i] m[i]) = 0 := by simpa using h6
      have e : stp n l m l[i] m[i] s = s := by unfold stp; rw [if_neg h7]
      rw [e]
      have ih' := ih s
      simp (maxSteps := 1000000) -implicitDefEqProofs only [go_sem, Nat.reduceAdd, Nat.reduceMul, Nat.reduceSub, Nat.reduceDiv, Nat.reduceMod, Nat.reduceLT, Nat.reduceLeDiff, Nat.reduceBEq, Nat.reduceBNe, Nat.reduceEqDiff, Nat.reduceShiftLeft, Nat.reduceShiftRight, Nat.reduceOr, Nat.reduceAnd, Nat.reducePow, Nat.reduceSucc, Int.reduceToNat, Int.reduceAdd, Int.reduceSub, Int.reduceMul, Int.reduceNeg, Int.reduceTMod, Int.reduceTDiv, Int.reduceDiv, Int.reduceMod, Int.reducePow, Int.reduceLT, Int.reduceLE, Int.reduceEq, Int.reduceBEq, Int.reduceBNe, Int.reduceNe, reduceIte, reduceCtorEq, Int.cast_ofNat_Int, implies_true, forall_const, h1, h2, h3, h4, g1, g2, g3, g4, ih', hc, hX, hY, h6, c69]
end Go.Den.FaT

namespace Go.Den.FaT
open Go Go.Proofs Go.Den
set_option linter.unusedVariables false
set_option linter.unusedSimpArgs false
set_option maxRecDepth 100000

noncomputable def L68a (b c : Bool) (l m : List (Int × Int)) (s : FrS) (M A : Option (List Int)) (k sx sy : Int) (i j : Nat) : Option Out :=
  (lim T).loop false [.code (.loop b68_2), .inBlock 4, .code (.seq r68_22 (.cond (.tmp 86) r68_23 .skip)), .inBlock 3, .code r68_24, .inLoop b68_1, .inBlock 2, .inBlock 1, .code r68_25, .inLoop b68_0, .inBlock 0, .code (.seq (.seq r68_26 (.cond (.tmp 93) (.seq r68_27 .ret) .skip)) (.seq r68_28 .ret))]
    ⟨68, 97, 0, [(0, .sl b 2 (l.map fun p => .agg [.int .i64 p.1, .int .i64 p.2])), (1, .sl c 2 (m.map fun p => .agg [.int .i64 p.1, .int .i64 p.2])), (4, .ptr 0 0 0), (8, .ptr 1 0 0), (9, acV M 2), (10, .int .i64 k), (13, .ptr (acI M 2) 0 0), (14, acV A (acI M 2 + 1)), (38, .int .i64 k),
      (41, .sl b 2 (l.map fun p => .agg [.int .i64 p.1, .int .i64 p.2])), (42, .int .i64 l.length), (43, .int .i64 i), (62, .sl b 2 (l.map fun p => .agg [.int .i64 p.1, .int .i64 p.2])), (63, .int .i64 l.length), (64, .int .i64 j)],
      .cells true true 106 [.agg [.int .i64 0, .int .i64 0, .int .i64 0]] :: .cells true true 106 [.agg [.int .i64 s.n, .int .i64 s.x, .int .i64 s.y]] :: (acR (fun n => .int .i64 n) M 3 ++ (.cells true true 106 [.agg [.int .i64 k, .int .i64 sx, .int .i64 sy]] :: acR (fun n => .int .i64 n) A 3)), 0, []⟩

set_option maxHeartbeats 2000000 in
theorem loop68a (b c : Bool) (l m : List (Int × Int)) (s : FrS) (M : Option (List Int)) (k sx sy : Int) (i : Nat) (hb : l.length < 1000) (hm : l.length = m.length) (hn : 0 ≤ k ∧ k ≤ 3) (hs : bnd 1000 (sx, sy)) (hl : ∀ p ∈ l, bnd 1000 p) : ∀ j, j ≤ l.length → ∀ A : Option (List Int), acL A ≤ j →
    L68a b c l m s M A k sx sy i j = L68a b c l m s M (acA A (agr k sx sy j (l.drop j) (m.drop j))) k sx sy i l.length := by
  refine down_ind l.length ?_ fun j hj ih A hA => ?_
  · intro A hA
    have h0 : l.drop l.length = [] := by simp
    rw [h0]; rfl
  · obtain ⟨h1, h2, h3, h4, h5⟩ := idx_in hj (by omega)
    obtain ⟨g1, g2, g3, g4, g5⟩ := idx_in (l := m) (i := j) (by omega) (by omega)
    conv => lhs; unfold L68a; rw [loopEq]
    rw [h5, g5]
    have hpi : bnd 1000000 (l[j].1, l[j].2) := bnd_mono (by omega) (hl _ (List.getElem_mem hj))
    have hc := c162' k sx sy l[j].1 l[j].2 hn (bnd_mono (by omega) hs) hpi
    simp only [agr]
    cases h6 : ((cry k sx sy l[j].1 l[j].2).1 == m[j].1 && (cry k sx sy l[j].1 l[j].2).2 == m[j].2)
    · have h7 : ¬ cry k sx sy l[j].1 l[j].2 = m[j] := by
        intro e; rw [e] at h6; simp at h6
      rw [if_neg h7]
      have ih' := ih A (by omega)
      conv at ih' => lhs; unfold L68a
      cases M with
      | none => cases A with
        | none =>
          simp only [acV_n, acR_n, acI_n, List.nil_append] at ih'
          simp (maxSteps := 1000000) -implicitDefEqProofs only [go_sem, Nat.reduceAdd, Nat.reduceMul, Nat.reduceSub, Nat.reduceDiv, Nat.reduceMod, Nat.reduceLT, Nat.reduceLeDiff, Nat.reduceBEq, Nat.reduceBNe, Nat.reduceEqDiff, Nat.reduceShiftLeft, Nat.reduceShiftRight, Nat.reduceOr, Nat.reduceAnd, Nat.reducePow, Nat.reduceSucc, Int.reduceToNat, Int.reduceAdd, Int.reduceSub, Int.reduceMul, Int.reduceNeg, Int.reduceTMod, Int.reduceTDiv, Int.reduceDiv, Int.reduceMod, Int.reducePow, Int.reduceLT, Int.reduceLE, Int.reduceEq, Int.reduceBEq, Int.reduceBNe, Int.reduceNe, reduceIte, reduceCtorEq, Int.cast_ofNat_Int, implies_true, forall_const, h1, h2, h3, h4, g1, g2, g3, g4, ih', hc, h6]
        | some a =>
          simp only [acV_n, acR_n, acI_n, acV_s, acR_s, acI_s, List.nil_append, Nat.reduceAdd] at ih'
          simp (maxSteps := 1000000) -implicitDefEqProofs only [go_sem, Nat.reduceAdd, Nat.reduceMul, Nat.reduceSub, Nat.reduceDiv, Nat.reduceMod, Nat.reduceLT, Nat.reduceLeDiff, Nat.reduceBEq, Nat.reduceBNe, Nat.reduceEqDiff, Nat.reduceShiftLeft, Nat.reduceShiftRight, Nat.reduceOr, Nat.reduceAnd, Nat.reducePow, Nat.reduceSucc, Int.reduceToNat, Int.reduceAdd, Int.reduceSub, Int.reduceMul, Int.reduceNeg, Int.reduceTMod, Int.reduceTDiv, Int.reduceDiv, Int.reduceMod, Int.reducePow, Int.reduceLT, Int.reduceLE, Int.reduceEq, Int.reduceBEq, Int.reduceBNe, Int.reduceNe, reduceIte, reduceCtorEq, Int.cast_ofNat_Int, implies_true, forall_const, h1, h2, h3, h4, g1, g2, g3, g4, ih', hc, h6]
      | some mm => cases A with
        | none =>
          simp only [acV_n, acR_n, acI_n, acV_s, acR_s, acI_s, List.nil_append, List.cons_append, Nat.reduceAdd] at ih'
          simp (maxSteps := 1000000) -implicitDefEqProofs only [go_sem, Nat.reduceAdd, Nat.reduceMul, Nat.reduceSub, Nat.reduceDiv, Nat.reduceMod, Nat.reduceLT, Nat.reduceLeDiff, Nat.reduceBEq, Nat.reduceBNe, Nat.reduceEqDiff, Nat.reduceShiftLeft, Nat.reduceShiftRight, Nat.reduceOr, Nat.reduceAnd, Nat.reducePow, Nat.reduceSucc, Int.reduceToNat, Int.reduceAdd, Int.reduceSub, Int.reduceMul, Int.reduceNeg, Int.reduceTMod, Int.reduceTDiv, Int.reduceDiv, Int.reduceMod, Int.reducePow, Int.reduceLT, Int.reduceLE, Int.reduceEq, Int.reduceBEq, Int.reduceBNe, Int.reduceNe, reduceIte, reduceCtorEq, Int.cast_ofNat_Int, implies_true, forall_const, h1, h2, h3, h4, g1, g2, g3, g4, ih', hc, h6]
        | some a =>
          simp only [acV_n, acR_n, acI_n, acV_s, acR_s, acI_s, List.nil_append, List.cons_append, Nat.reduceAdd] at ih'
          simp (maxSteps := 1000000) -implicitDefEqProofs only [go_sem, Nat.reduceAdd, Nat.reduceMul, Nat.reduceSub, Nat.reduceDiv, Nat.reduceMod, Nat.reduceLT, Nat.reduceLeDiff, Nat.reduceBEq, Nat.reduceBNe, Nat.reduceEqDiff, Nat.reduceShiftLeft, Nat.reduceShiftRight, Nat.reduceOr, Nat.reduceAnd, Nat.reducePow, Nat.reduceSucc, Int.reduceToNat, Int.reduceAdd, Int.reduceSub, Int.reduceMul, Int.reduceNeg, Int.reduceTMod, Int.reduceTDiv, Int.reduceDiv, Int.reduceMod, Int.reducePow, Int.reduceLT, Int.reduceLE, Int.reduceEq, Int.reduceBEq, Int.reduceBNe, Int.reduceNe, reduceIte, reduceCtorEq, Int.cast_ofNat_Int, implies_true, forall_const, h1, h2, h3, h4, g1, g2, g3, g4, ih', hc, h6]
    · have h7 : cry k sx sy l[j].1 l[j].2 = m[j] := by
        simp at h6; exact Prod.ext h6.1 h6.2
      rw [if_pos h7]
      have ih' := ih (acA A [(j : Int)]) (by rw [acL_A]; simp; omega)
      rw [acA_acA] at ih'
      conv at ih' => lhs; unfold L68a
      cases M with
      | none => cases A with
        | none =>
          have h8 := (row_ok (n := 0) (by omega)).2
          simp only [acA_n, acV_n, acR_n, acI_n, acV_s, acR_s, acI_s, List.nil_append, List.map_cons, List.map_nil, Nat.reduceAdd] at ih'
          simp (maxSteps := 1000000) -implicitDefEqProofs only [go_sem, Nat.reduceAdd, Nat.reduceMul, Nat.reduceSub, Nat.reduceDiv, Nat.reduceMod, Nat.reduceLT, Nat.reduceLeDiff, Nat.reduceBEq, Nat.reduceBNe, Nat.reduceEqDiff, Nat.reduceShiftLeft, Nat.reduceShiftRight, Nat.reduceOr, Nat.reduceAnd, Nat.reducePow, Nat.reduceSucc, Int.reduceToNat, Int.reduceAdd, Int.reduceSub, Int.reduceMul, Int.reduceNeg, Int.reduceTMod, Int.reduceTDiv, Int.reduceDiv, Int.reduceMod, Int.reducePow, Int.reduceLT, Int.reduceLE, Int.reduceEq, Int.reduceBEq, Int.reduceBNe, Int.reduceNe, reduceIte, reduceCtorEq, Int.cast_ofNat_Int, implies_true, forall_const, h1, h2, h3, h4, g1, g2, g3, g4, ih', hc, h6, h8]
        | some a =>
          have h9 : a.length ≤ j := hA
          have h8 := (row_ok (n := a.length) (by omega)).1
          simp only [acA_s, acV_n, acR_n, acI_n, acV_s, acR_s, acI_s, List.nil_append, List.map_append, List.map_cons, List.map_nil, Nat.reduceAdd] at ih'
          simp (maxSteps := 1000000) -implicitDefEqProofs only [go_sem, Nat.reduceAdd, Nat.reduceMul, Nat.reduceSub, Nat.reduceDiv, Nat.reduceMod, Nat.reduceLT, Nat.reduceLeDiff, Nat.reduceBEq, Nat.reduceBNe, Nat.reduceEqDiff, Nat.reduceShiftLeft, Nat.reduceShiftRight, Nat.reduceOr, Nat.reduceAnd, Nat.reducePow, Nat.reduceSucc, Int.reduceToNat, Int.reduceAdd, Int.reduceSub, Int.reduceMul, Int.reduceNeg, Int.reduceTMod, Int.reduceTDiv, Int.reduceDiv, Int.reduceMod, Int.reducePow, Int.reduceLT, Int.reduceLE, Int.reduceEq, Int.reduceBEq, Int.reduceBNe, Int.reduceNe, reduceIte, reduceCtorEq, Int.cast_ofNat_Int, implies_true, forall_const, h1, h2, h3, h4, g1, g2, g3, g4, ih', hc, h6, h8]
      | some mm => cases A with
        | none =>
          have h8 := (row_ok (n := 0) (by omega)).2
          simp only [acA_n, acV_n, acR_n, acI_n, acV_s, acR_s, acI_s, List.nil_append, List.cons_append, List.map_cons, List.map_nil, Nat.reduceAdd] at ih'
          simp (maxSteps := 1000000) -implicitDefEqProofs only [go_sem, Nat.reduceAdd, Nat.reduceMul, Nat.reduceSub, Nat.reduceDiv, Nat.reduceMod, Nat.reduceLT, Nat.reduceLeDiff, Nat.reduceBEq, Nat.reduceBNe, Nat.reduceEqDiff, Nat.reduceShiftLeft, Nat.reduceShiftRight, Nat.reduceOr, Nat.reduceAnd, Nat.reducePow, Nat.reduceSucc, Int.reduceToNat, Int.reduceAdd, Int.reduceSub, Int.reduceMul, Int.reduceNeg, Int.reduceTMod, Int.reduceTDiv, Int.reduceDiv, Int.reduceMod, Int.reducePow, Int.reduceLT, Int.reduceLE, Int.reduceEq, Int.reduceBEq, Int.reduceBNe, Int.reduceNe, reduceIte, reduceCtorEq, Int.cast_ofNat_Int, implies_true, forall_const, h1, h2, h3, h4, g1, g2, g3, g4, ih', hc, h6, h8]
        | some a =>
          have h9 : a.length ≤ j := hA
          have h8 := (row_ok (n := a.length) (by omega)).1
          simp only [acA_s, acV_n, acR_n, acI_n, acV_s, acR_s, acI_s, List.nil_append, List.cons_append, List.map_append, List.map_cons, List.map_nil, Nat.reduceAdd] at ih'
          simp (maxSteps := 1000000) -implicitDefEqProofs only [go_sem, Nat.reduceAdd, Nat.reduceMul, Nat.reduceSub, Nat.reduceDiv, Nat.reduceMod, Nat.reduceLT, Nat.reduceLeDiff, Nat.reduceBEq, Nat.reduceBNe, Nat.reduceEqDiff, Nat.reduceShiftLeft, Nat.reduceShiftRight, Nat.reduceOr, Nat.reduceAnd, Nat.reducePow, Nat.reduceSucc, Int.reduceToNat, Int.reduceAdd, Int.reduceSub, Int.reduceMul, Int.reduceNeg, Int.reduceTMod, Int.reduceTDiv, Int.reduceDiv, Int.reduceMod, Int.reducePow, Int.reduceLT, Int.reduceLE, Int.reduceEq, Int.reduceBEq, Int.reduceBNe, Int.reduceNe, reduceIte, reduceCtorEq, Int.cast_ofNat_Int, implies_true, forall_const, h1, h2, h3, h4, g1, g2, g3, g4, ih', hc, h6, h8]
end Go.Den.FaT

namespace Go.Den.FaT
open Go Go.Proofs Go.Den
set_option linter.unusedVariables false
set_option linter.unusedSimpArgs false
set_option maxRecDepth 100000

noncomputable def L68b (b c : Bool) (l m : List (Int × Int)) (s : FrS) (M : Option (List Int)) (k : Int) (i : Nat) : Option Out :=
  (lim T).loop false [.code (.loop b68_1), .inBlock 2, .inBlock 1, .code r68_25, .inLoop b68_0, .inBlock 0, .code (.seq (.seq r68_26 (.cond (.tmp 93) (.seq r68_27 .ret) .skip)) (.seq r68_28 .ret))]
    ⟨68, 97, 0, [(0, .sl b 2 (l.map fun p => .agg [.int .i64 p.1, .int .i64 p.2])), (1, .sl c 2 (m.map fun p => .agg [.int .i64 p.1, .int .i64 p.2])), (4, .ptr 0 0 0), (8, .ptr 1 0 0), (9, acV M 2), (10, .int .i64 k), (38, .int .i64 k),
      (41, .sl b 2 (l.map fun p => .agg [.int .i64 p.1, .int .i64 p.2])), (42, .int .i64 l.length), (43, .int .i64 i)],
      .cells true true 106 [.agg [.int .i64 0, .int .i64 0, .int .i64 0]] :: .cells true true 106 [.agg [.int .i64 s.n, .int .i64 s.x, .int .i64 s.y]] :: acR (fun n => .int .i64 n) M 3, 0, []⟩

theorem none_or_some {l : List Int} : (l = [] ∧ acA none l = none) ∨ (l ≠ [] ∧ acA none l = some l) := by
  cases l with
  | nil => exact .inl ⟨rfl, rfl⟩
  | cons x r => exact .inr ⟨by simp, rfl⟩

set_option maxHeartbeats 4000000 in
theorem loop68b (b c : Bool) (k : Int) (l m : List (Int × Int)) (hb : l.length < 1000) (hm : l.length = m.length) (hn : 0 ≤ k ∧ k ≤ 3) (hl : ∀ p ∈ l, bnd 1000 p) (hq : ∀ p ∈ m, bnd 1000 p) : ∀ i, i ≤ l.length → ∀ s : FrS,
    L68b b c l m s (acA none s.l) k i = L68b b c l m (inn k l m (l.drop i) (m.drop i) s) (acA none (inn k l m (l.drop i) (m.drop i) s).l) k l.length := by
  refine down_ind l.length ?_ fun i hi ih s => ?_
  · intro s
    have h0 : l.drop l.length = [] := by simp
    rw [h0]; rfl
  · obtain ⟨h1, h2, h3, h4, h5⟩ := idx_in hi (by omega)
    obtain ⟨g1, g2, g3, g4, g5⟩ := idx_in (l := m) (i := i) (by omega) (by omega)
    conv => lhs; unfold L68b; rw [loopEq]
    rw [h5, g5]
    simp only [inn]
    have hpi : bnd 1000 (l[i].1, l[i].2) := hl _ (List.getElem_mem hi)
    have hqi : bnd 1000 m[i] := hq _ (List.getElem_mem (by omega))
    have ht := tr_bnd k hpi
    have hc := c162' k 0 0 l[i].1 l[i].2 hn (by unfold bnd; omega) (bnd_mono (by omega) hpi)
    have hX : IntKind.i64.wrap (m[i].1 - (cry k 0 0 l[i].1 l[i].2).1) = candX k l[i] m[i] := by
      unfold cry; unfold bnd at ht hqi; dsimp only at ht hqi ⊢; rw [wrap64 (by omega) (by omega)]; unfold candX; omega
    have hY : IntKind.i64.wrap (m[i].2 - (cry k 0 0 l[i].1 l[i].2).2) = candY k l[i] m[i] := by
      unfold cry; unfold bnd at ht hqi; dsimp only at ht hqi ⊢; rw [wrap64 (by omega) (by omega)]; unfold candY; omega
    cases h6 : (ckF k (candX k l[i] m[i]) (candY k l[i] m[i]) != 0)
    · have h7 : ckF k (candX k l[i] m[i]) (candY k l[i] m[i]) = 0 := by simpa using h6
      obtain ⟨_, hs⟩ := ckF_bnd h7
      have hr := loop68a b c l m s (acA none s.l) k _ _ i hb hm hn hs hl 0 (by omega) none (Nat.le_refl _)
      rw [List.drop_zero, List.drop_zero] at hr
      have hend := idx_out l.length
      generalize hag : agr k (candX k l[i] m[i]) (candY k l[i] m[i]) 0 l m = ag at hr
      conv at hr => lhs; unfold L68a
      -- the loop of the marks that agree, then what is done with them
      have fin : L68a b c l m s (acA none s.l) (acA none ag) k (candX k l[i] m[i]) (candY k l[i] m[i]) i l.length = L68b b c l m (stp k l m l[i] m[i] s) (acA none (stp k l m l[i] m[i] s).l) k (i + 1) := by
        conv => lhs; unfold L68a; rw [loopEq]
        cases h8 : decide (((s.l.length : Nat) : Int) < ((ag.length : Nat) : Int))
        · have h9 : ¬ s.l.length < ag.length := by simp at h8; omega
          have e : stp k l m l[i] m[i] s = s := by unfold stp; rw [if_pos h7, hag, if_neg h9]
          rw [e]
          unfold L68b
          rcases none_or_some (l := s.l) with ⟨e1, e2⟩ | ⟨e1, e2⟩
          · rw [e2]
            have : ag = [] := by rw [e1] at h9; simp at h9; exact h9
            rw [this]
            simp (maxSteps := 1000000) -implicitDefEqProofs only [go_sem, Nat.reduceAdd, Nat.reduceMul, Nat.reduceSub, Nat.reduceDiv, Nat.reduceMod, Nat.reduceLT, Nat.reduceLeDiff, Nat.reduceBEq, Nat.reduceBNe, Nat.reduceEqDiff, Nat.reduceShiftLeft, Nat.reduceShiftRight, Nat.reduceOr, Nat.reduceAnd, Nat.reducePow, Nat.reduceSucc, Int.reduceToNat, Int.reduceAdd, Int.reduceSub, Int.reduceMul, Int.reduceNeg, Int.reduceTMod, Int.reduceTDiv, Int.reduceDiv, Int.reduceMod, Int.reducePow, Int.reduceLT, Int.reduceLE, Int.reduceEq, Int.reduceBEq, Int.reduceBNe, Int.reduceNe, reduceIte, reduceCtorEq, Int.cast_ofNat_Int, implies_true, forall_const, hend, h4, acA_0]
          · rw [e2]
            rcases none_or_some (l := ag) with ⟨a1, a2⟩ | ⟨a1, a2⟩
            · rw [a2]
              rw [a1] at h8
              simp only [List.length_nil, Int.cast_ofNat_Int] at h8
              simp (maxSteps := 1000000) -implicitDefEqProofs only [go_sem, Nat.reduceAdd, Nat.reduceMul, Nat.reduceSub, Nat.reduceDiv, Nat.reduceMod, Nat.reduceLT, Nat.reduceLeDiff, Nat.reduceBEq, Nat.reduceBNe, Nat.reduceEqDiff, Nat.reduceShiftLeft, Nat.reduceShiftRight, Nat.reduceOr, Nat.reduceAnd, Nat.reducePow, Nat.reduceSucc, Int.reduceToNat, Int.reduceAdd, Int.reduceSub, Int.reduceMul, Int.reduceNeg, Int.reduceTMod, Int.reduceTDiv, Int.reduceDiv, Int.reduceMod, Int.reducePow, Int.reduceLT, Int.reduceLE, Int.reduceEq, Int.reduceBEq, Int.reduceBNe, Int.reduceNe, reduceIte, reduceCtorEq, Int.cast_ofNat_Int, implies_true, forall_const, hend, h4, h8]
            · rw [a2]
              simp (maxSteps := 1000000) -implicitDefEqProofs only [go_sem, Nat.reduceAdd, Nat.reduceMul, Nat.reduceSub, Nat.reduceDiv, Nat.reduceMod, Nat.reduceLT, Nat.reduceLeDiff, Nat.reduceBEq, Nat.reduceBNe, Nat.reduceEqDiff, Nat.reduceShiftLeft, Nat.reduceShiftRight, Nat.reduceOr, Nat.reduceAnd, Nat.reducePow, Nat.reduceSucc, Int.reduceToNat, Int.reduceAdd, Int.reduceSub, Int.reduceMul, Int.reduceNeg, Int.reduceTMod, Int.reduceTDiv, Int.reduceDiv, Int.reduceMod, Int.reducePow, Int.reduceLT, Int.reduceLE, Int.reduceEq, Int.reduceBEq, Int.reduceBNe, Int.reduceNe, reduceIte, reduceCtorEq, Int.cast_ofNat_Int, implies_true, forall_const, hend, h4, h8]
        · have h9 : s.l.length < ag.length := by simp at h8; omega
          have e : stp k l m l[i] m[i] s = ⟨k, candX k l[i] m[i], candY k l[i] m[i], ag⟩ := by unfold stp; rw [if_pos h7, hag, if_pos h9]
          rw [e]
          unfold L68b
          rcases none_or_some (l := ag) with ⟨a1, a2⟩ | ⟨a1, a2⟩
          · rw [a1] at h9; simp at h9
          · dsimp only
            rw [a2]
            rcases none_or_some (l := s.l) with ⟨e1, e2⟩ | ⟨e1, e2⟩
            · rw [e2]
              rw [e1] at h8
              simp only [List.length_nil, Int.cast_ofNat_Int] at h8
              simp (maxSteps := 1000000) -implicitDefEqProofs only [go_sem, Nat.reduceAdd, Nat.reduceMul, Nat.reduceSub, Nat.reduceDiv, Nat.reduceMod, Nat.reduceLT, Nat.reduceLeDiff, Nat.reduceBEq, Nat.reduceBNe, Nat.reduceEqDiff, Nat.reduceShiftLeft, Nat.reduceShiftRight, Nat.reduceOr, Nat.reduceAnd, Nat.reducePow, Nat.reduceSucc, Int.reduceToNat, Int.reduceAdd, Int.reduceSub, Int.reduceMul, Int.reduceNeg, Int.reduceTMod, Int.reduceTDiv, Int.reduceDiv, Int.reduceMod, Int.reducePow, Int.reduceLT, Int.reduceLE, Int.reduceEq, Int.reduceBEq, Int.reduceBNe, Int.reduceNe, reduceIte, reduceCtorEq, Int.cast_ofNat_Int, implies_true, forall_const, hend, h4, h8]
            · rw [e2]
              simp (maxSteps := 1000000) -implicitDefEqProofs only [go_sem, Nat.reduceAdd, Nat.reduceMul, Nat.reduceSub, Nat.reduceDiv, Nat.reduceMod, Nat.reduceLT, Nat.reduceLeDiff, Nat.reduceBEq, Nat.reduceBNe, Nat.reduceEqDiff, Nat.reduceShiftLeft, Nat.reduceShiftRight, Nat.reduceOr, Nat.reduceAnd, Nat.reducePow, Nat.reduceSucc, Int.reduceToNat, Int.reduceAdd, Int.reduceSub, Int.reduceMul, Int.reduceNeg, Int.reduceTMod, Int.reduceTDiv, Int.reduceDiv, Int.reduceMod, Int.reducePow, Int.reduceLT, Int.reduceLE, Int.reduceEq, Int.reduceBEq, Int.reduceBNe, Int.reduceNe, reduceIte, reduceCtorEq, Int.cast_ofNat_Int, implies_true, forall_const, hend, h4, h8]
      have ih' := ih (stp k l m l[i] m[i] s)
      rw [← ih', ← fin]
      rcases none_or_some (l := s.l) with ⟨e1, e2⟩ | ⟨e1, e2⟩
      · rw [e2] at hr ⊢
        simp only [show ((0 : Nat) : Int) = 0 from rfl, acV_n, acR_n, acI_n, List.nil_append, Nat.reduceAdd] at hr
        simp (maxSteps := 1000000) -implicitDefEqProofs only [go_sem, Nat.reduceAdd, Nat.reduceMul, Nat.reduceSub, Nat.reduceDiv, Nat.reduceMod, Nat.reduceLT, Nat.reduceLeDiff, Nat.reduceBEq, Nat.reduceBNe, Nat.reduceEqDiff, Nat.reduceShiftLeft, Nat.reduceShiftRight, Nat.reduceOr, Nat.reduceAnd, Nat.reducePow, Nat.reduceSucc, Int.reduceToNat, Int.reduceAdd, Int.reduceSub, Int.reduceMul, Int.reduceNeg, Int.reduceTMod, Int.reduceTDiv, Int.reduceDiv, Int.reduceMod, Int.reducePow, Int.reduceLT, Int.reduceLE, Int.reduceEq, Int.reduceBEq, Int.reduceBNe, Int.reduceNe, reduceIte, reduceCtorEq, Int.cast_ofNat_Int, implies_true, forall_const, h1, h2, h3, h4, g1, g2, g3, g4, hc, hX, hY, h6, c160, c163, hr]
      · rw [e2] at hr ⊢
        simp only [show ((0 : Nat) : Int) = 0 from rfl, acV_n, acR_n, acI_n, acV_s, acR_s, acI_s, List.nil_append, List.cons_append, Nat.reduceAdd] at hr
        simp (maxSteps := 1000000) -implicitDefEqProofs only [go_sem, Nat.reduceAdd, Nat.reduceMul, Nat.reduceSub, Nat.reduceDiv, Nat.reduceMod, Nat.reduceLT, Nat.reduceLeDiff, Nat.reduceBEq, Nat.reduceBNe, Nat.reduceEqDiff, Nat.reduceShiftLeft, Nat.reduceShiftRight, Nat.reduceOr, Nat.reduceAnd, Nat.reducePow, Nat.reduceSucc, Int.reduceToNat, Int.reduceAdd, Int.reduceSub, Int.reduceMul, Int.reduceNeg, Int.reduceTMod, Int.reduceTDiv, Int.reduceDiv, Int.reduceMod, Int.reducePow, Int.reduceLT, Int.reduceLE, Int.reduceEq, Int.reduceBEq, Int.reduceBNe, Int.reduceNe, reduceIte, reduceCtorEq, Int.cast_ofNat_Int, implies_true, forall_const, h1, h2, h3, h4, g1, g2, g3, g4, hc, hX, hY, h6, c160, c163, hr]
    · have h7 : ¬ ckF k (candX k l[i] m[i]) (candY k l[i] m[i]) = 0 := by simpa using h6
      have e : stp k l m l[i] m[i] s = s := by unfold stp; rw [if_neg h7]
      rw [e]
      have ih' := ih s
      conv at ih' => lhs; unfold L68b
      rcases none_or_some (l := s.l) with ⟨e1, e2⟩ | ⟨e1, e2⟩
      · rw [e2] at ih' ⊢
        simp only [acV_n, acR_n] at ih'
        simp (maxSteps := 1000000) -implicitDefEqProofs only [go_sem, Nat.reduceAdd, Nat.reduceMul, Nat.reduceSub, Nat.reduceDiv, Nat.reduceMod, Nat.reduceLT, Nat.reduceLeDiff, Nat.reduceBEq, Nat.reduceBNe, Nat.reduceEqDiff, Nat.reduceShiftLeft, Nat.reduceShiftRight, Nat.reduceOr, Nat.reduceAnd, Nat.reducePow, Nat.reduceSucc, Int.reduceToNat, Int.reduceAdd, Int.reduceSub, Int.reduceMul, Int.reduceNeg, Int.reduceTMod, Int.reduceTDiv, Int.reduceDiv, Int.reduceMod, Int.reducePow, Int.reduceLT, Int.reduceLE, Int.reduceEq, Int.reduceBEq, Int.reduceBNe, Int.reduceNe, reduceIte, reduceCtorEq, Int.cast_ofNat_Int, implies_true, forall_const, h1, h2, h3, h4, g1, g2, g3, g4, ih', hc, hX, hY, h6, c160, c163]
      · rw [e2] at ih' ⊢
        simp only [acV_s, acR_s] at ih'
        simp (maxSteps := 1000000) -implicitDefEqProofs only [go_sem, Nat.reduceAdd, Nat.reduceMul, Nat.reduceSub, Nat.reduceDiv, Nat.reduceMod, Nat.reduceLT, Nat.reduceLeDiff, Nat.reduceBEq, Nat.reduceBNe, Nat.reduceEqDiff, Nat.reduceShiftLeft, Nat.reduceShiftRight, Nat.reduceOr, Nat.reduceAnd, Nat.reducePow, Nat.reduceSucc, Int.reduceToNat, Int.reduceAdd, Int.reduceSub, Int.reduceMul, Int.reduceNeg, Int.reduceTMod, Int.reduceTDiv, Int.reduceDiv, Int.reduceMod, Int.reducePow, Int.reduceLT, Int.reduceLE, Int.reduceEq, Int.reduceBEq, Int.reduceBNe, Int.reduceNe, reduceIte, reduceCtorEq, Int.cast_ofNat_Int, implies_true, forall_const, h1, h2, h3, h4, g1, g2, g3, g4, ih', hc, hX, hY, h6, c160, c163]
end Go.Den.FaT

namespace Go.Den.FaT
open Go Go.Proofs Go.Den
set_option linter.unusedVariables false
set_option linter.unusedSimpArgs false
set_option maxRecDepth 100000

theorem fnz_zero {l : List Int} : fnz l = 0 ↔ ∀ x ∈ l, x = 0 := by
  induction l with
  | nil => simp [fnz]
  | cons x l ih =>
    simp only [fnz]
    by_cases h : x = 0
    · simp [h, ih]
    · simp [h]
theorem ckP_bnd {x y : Int} (h : ckP x y = 0) : bnd 1000 (x, y) := by
  simp only [ckP, fnz, rng_eq] at h
  unfold bnd
  by_cases h2 : x < -1000 ∨ 1000 < x
  · simp [h2] at h
  · by_cases h3 : y < -1000 ∨ 1000 < y
    · simp [h2, h3] at h
    · dsimp only; omega
theorem stp_nil {n : Int} {l m : List (Int × Int)} {p q : Int × Int} {s : FrS} (h : (stp n l m p q s).l = []) : stp n l m p q s = s := by
  unfold stp at h ⊢
  split
  · rename_i h1
    rw [if_pos h1] at h
    split
    · rename_i h2
      rw [if_pos h2] at h
      dsimp only at h
      rw [h] at h2; simp at h2
    · rfl
  · rfl
theorem inn_nil {n : Int} {l m : List (Int × Int)} : ∀ (ps qs : List (Int × Int)) (s : FrS), (inn n l m ps qs s).l = [] → inn n l m ps qs s = s := by
  intro ps
  induction ps with
  | nil => intro qs s _; rfl
  | cons p ps ih =>
    intro qs s h
    cases qs with
    | nil => rfl
    | cons q qs =>
      simp only [inn] at h ⊢
      have h1 := ih qs _ h
      rw [h1] at h ⊢
      exact stp_nil h
theorem frm_nil {l m : List (Int × Int)} (h : (frm l m).l = []) : frm l m = ⟨0, 0, 0, []⟩ := by
  unfold frm at h ⊢
  have h3 := inn_nil _ _ _ h
  rw [h3] at h ⊢
  have h2 := inn_nil _ _ _ h
  rw [h2] at h ⊢
  have h1 := inn_nil _ _ _ h
  rw [h1] at h ⊢
  exact inn_nil _ _ _ h

/-- the error of marks -/
def ckM (l m : List (Int × Int)) : Int := fnz [fnz [cond ((l.length : Int) == 0) 12 0, cond (decide (8 < (l.length : Int))) 5 0], fnz (l.map fun p => ckP p.1 p.2), cond ((m.length : Int) != l.length) 2 0, fnz (m.map fun p => ckP p.1 p.2)]
theorem ckM_ok {l m : List (Int × Int)} (h : ckM l m = 0) : l ≠ [] ∧ l.length ≤ 8 ∧ l.length = m.length ∧ (∀ p ∈ l, bnd 1000 p) ∧ (∀ p ∈ m, bnd 1000 p) := by
  unfold ckM at h
  have h := fnz_zero.1 h
  have h1 := fnz_zero.1 (h _ (List.mem_cons_self ..))
  have h2 := fnz_zero.1 (h (fnz (l.map fun p => ckP p.1 p.2)) (by simp))
  have h3 := h (cond ((m.length : Int) != l.length) 2 0) (by simp)
  have h4 := fnz_zero.1 (h (fnz (m.map fun p => ckP p.1 p.2)) (by simp))
  have h5 := h1 (cond ((l.length : Int) == 0) 12 0) (by simp)
  have h6 := h1 (cond (decide (8 < (l.length : Int))) 5 0) (by simp)
  refine ⟨fun e => ?_, ?_, ?_, fun p hp => ckP_bnd (h2 _ (List.mem_map.2 ⟨p, hp, rfl⟩)), fun p hp => ckP_bnd (h4 _ (List.mem_map.2 ⟨p, hp, rfl⟩))⟩
  · rw [e] at h5; simp at h5
  · by_cases hc : 8 < (l.length : Int)
    · simp [hc] at h6
    · omega
  · by_cases hc : (m.length : Int) = l.length
    · omega
    · have : ((m.length : Int) != l.length) = true := by simpa using hc
      rw [this] at h3; simp at h3

set_option maxHeartbeats 4000000 in
theorem c68 (b c : Bool) (l m : List (Int × Int)) (hl0 : l.length < 1000) (hm0 : m.length < 1000) :
    (lim T).call 68 [.sl b 2 (l.map fun p => .agg [.int .i64 p.1, .int .i64 p.2]), .sl c 2 (m.map fun p => .agg [.int .i64 p.1, .int .i64 p.2])] [] 0 [] =
      some (if ckM l m = 0 then .tup [.agg [.int .i64 (frm l m).n, .int .i64 (frm l m).x, .int .i64 (frm l m).y], slV 1 ((frm l m).l.map fun n => .int .i64 n), .int .i64 (cond (((frm l m).l.length : Int) == 0) 7 0)]
        else .tup [.agg [.int .i64 0, .int .i64 0, .int .i64 0], .sl false 0 [], .int .i64 (ckM l m)], [], 0, []) := by
  rw [ent68]
  have e1 := c112 l.length 8
  have e2 := c141 b l (by omega)
  have e3 := c141 c m (by omega)
  have e4 := fun b => c114 b (l.map fun p => ckP p.1 p.2) (by simp; omega)
  have e5 := fun b => c114 b (m.map fun p => ckP p.1 p.2) (by simp; omega)
  have e6 := c114_4 true (fnz [cond ((l.length : Int) == 0) 12 0, cond (decide (8 < (l.length : Int))) 5 0]) (fnz (l.map fun p => ckP p.1 p.2)) (cond ((m.length : Int) != l.length) 2 0) (fnz (m.map fun p => ckP p.1 p.2))
  rw [show fnz [fnz [cond ((l.length : Int) == 0) 12 0, cond (decide (8 < (l.length : Int))) 5 0], fnz (l.map fun p => ckP p.1 p.2), cond ((m.length : Int) != l.length) 2 0, fnz (m.map fun p => ckP p.1 p.2)] = ckM l m from rfl] at e6
  cases h : (ckM l m != 0)
  · have h0 : ckM l m = 0 := by simpa using h
    rw [if_pos h0]
    obtain ⟨hne, h8, hlm, hl, hq⟩ := ckM_ok h0
    have h1 := idx_out l.length
    have k0 := loop68b b c 0 l m (by omega) hlm (by omega) hl hq 0 (by omega) ⟨0, 0, 0, []⟩
    have k1 := loop68b b c 1 l m (by omega) hlm (by omega) hl hq 0 (by omega)
    have k2 := loop68b b c 2 l m (by omega) hlm (by omega) hl hq 0 (by omega)
    have k3 := loop68b b c 3 l m (by omega) hlm (by omega) hl hq 0 (by omega)
    simp only [List.drop_zero] at k0 k1 k2 k3
    have hfn := frm_nil (l := l) (m := m)
    unfold frm at hfn ⊢
    generalize hs0 : inn 0 l m l m ⟨0, 0, 0, []⟩ = s0 at k0 hfn ⊢
    replace k1 := k1 s0
    generalize hs1 : inn 1 l m l m s0 = s1 at k1 hfn ⊢
    replace k2 := k2 s1
    generalize hs2 : inn 2 l m l m s1 = s2 at k2 hfn ⊢
    replace k3 := k3 s2
    generalize hs3 : inn 3 l m l m s2 = s3 at k3 hfn ⊢
    conv at k0 => lhs; unfold L68b
    simp only [acA_0, acV_n, acR_n, show ((0 : Nat) : Int) = 0 from rfl] at k0
    simp (maxSteps := 1000000) -implicitDefEqProofs only [go_sem, Nat.reduceAdd, Nat.reduceMul, Nat.reduceSub, Nat.reduceDiv, Nat.reduceMod, Nat.reduceLT, Nat.reduceLeDiff, Nat.reduceBEq, Nat.reduceBNe, Nat.reduceEqDiff, Nat.reduceShiftLeft, Nat.reduceShiftRight, Nat.reduceOr, Nat.reduceAnd, Nat.reducePow, Nat.reduceSucc, Int.reduceToNat, Int.reduceAdd, Int.reduceSub, Int.reduceMul, Int.reduceNeg, Int.reduceTMod, Int.reduceTDiv, Int.reduceDiv, Int.reduceMod, Int.reducePow, Int.reduceLT, Int.reduceLE, Int.reduceEq, Int.reduceBEq, Int.reduceBNe, Int.reduceNe, reduceIte, reduceCtorEq, Int.cast_ofNat_Int, implies_true, forall_const, e1, e2, e3, e4, e5, e6, c115, h]
    rw [loopEq]
    simp (maxSteps := 1000000) -implicitDefEqProofs only [go_sem, Nat.reduceAdd, Nat.reduceMul, Nat.reduceSub, Nat.reduceDiv, Nat.reduceMod, Nat.reduceLT, Nat.reduceLeDiff, Nat.reduceBEq, Nat.reduceBNe, Nat.reduceEqDiff, Nat.reduceShiftLeft, Nat.reduceShiftRight, Nat.reduceOr, Nat.reduceAnd, Nat.reducePow, Nat.reduceSucc, Int.reduceToNat, Int.reduceAdd, Int.reduceSub, Int.reduceMul, Int.reduceNeg, Int.reduceTMod, Int.reduceTDiv, Int.reduceDiv, Int.reduceMod, Int.reducePow, Int.reduceLT, Int.reduceLE, Int.reduceEq, Int.reduceBEq, Int.reduceBNe, Int.reduceNe, reduceIte, reduceCtorEq, Int.cast_ofNat_Int, implies_true, forall_const, k0]
    have step : ∀ (k : Int) (s : FrS), 0 ≤ k → k ≤ 2 → L68b b c l m s (acA none s.l) k l.length = L68b b c l m s (acA none s.l) (k + 1) 0 := by
      intro k s hk hk'
      have hk0 : k = 0 ∨ k = 1 ∨ k = 2 := by omega
      conv => lhs; unfold L68b; rw [loopEq]
      conv => rhs; unfold L68b
      rcases none_or_some (l := s.l) with ⟨a1, a2⟩ | ⟨a1, a2⟩
      · rw [a2]
        rcases hk0 with rfl | rfl | rfl
        · simp (maxSteps := 1000000) -implicitDefEqProofs only [go_sem, Nat.reduceAdd, Nat.reduceMul, Nat.reduceSub, Nat.reduceDiv, Nat.reduceMod, Nat.reduceLT, Nat.reduceLeDiff, Nat.reduceBEq, Nat.reduceBNe, Nat.reduceEqDiff, Nat.reduceShiftLeft, Nat.reduceShiftRight, Nat.reduceOr, Nat.reduceAnd, Nat.reducePow, Nat.reduceSucc, Int.reduceToNat, Int.reduceAdd, Int.reduceSub, Int.reduceMul, Int.reduceNeg, Int.reduceTMod, Int.reduceTDiv, Int.reduceDiv, Int.reduceMod, Int.reducePow, Int.reduceLT, Int.reduceLE, Int.reduceEq, Int.reduceBEq, Int.reduceBNe, Int.reduceNe, reduceIte, reduceCtorEq, Int.cast_ofNat_Int, implies_true, forall_const, h1, wrap64]
          rw [loopEq]
          simp (maxSteps := 1000000) -implicitDefEqProofs only [go_sem, Nat.reduceAdd, Nat.reduceMul, Nat.reduceSub, Nat.reduceDiv, Nat.reduceMod, Nat.reduceLT, Nat.reduceLeDiff, Nat.reduceBEq, Nat.reduceBNe, Nat.reduceEqDiff, Nat.reduceShiftLeft, Nat.reduceShiftRight, Nat.reduceOr, Nat.reduceAnd, Nat.reducePow, Nat.reduceSucc, Int.reduceToNat, Int.reduceAdd, Int.reduceSub, Int.reduceMul, Int.reduceNeg, Int.reduceTMod, Int.reduceTDiv, Int.reduceDiv, Int.reduceMod, Int.reducePow, Int.reduceLT, Int.reduceLE, Int.reduceEq, Int.reduceBEq, Int.reduceBNe, Int.reduceNe, reduceIte, reduceCtorEq, Int.cast_ofNat_Int, implies_true, forall_const, wrap64]
        · simp (maxSteps := 1000000) -implicitDefEqProofs only [go_sem, Nat.reduceAdd, Nat.reduceMul, Nat.reduceSub, Nat.reduceDiv, Nat.reduceMod, Nat.reduceLT, Nat.reduceLeDiff, Nat.reduceBEq, Nat.reduceBNe, Nat.reduceEqDiff, Nat.reduceShiftLeft, Nat.reduceShiftRight, Nat.reduceOr, Nat.reduceAnd, Nat.reducePow, Nat.reduceSucc, Int.reduceToNat, Int.reduceAdd, Int.reduceSub, Int.reduceMul, Int.reduceNeg, Int.reduceTMod, Int.reduceTDiv, Int.reduceDiv, Int.reduceMod, Int.reducePow, Int.reduceLT, Int.reduceLE, Int.reduceEq, Int.reduceBEq, Int.reduceBNe, Int.reduceNe, reduceIte, reduceCtorEq, Int.cast_ofNat_Int, implies_true, forall_const, h1, wrap64]
          rw [loopEq]
          simp (maxSteps := 1000000) -implicitDefEqProofs only [go_sem, Nat.reduceAdd, Nat.reduceMul, Nat.reduceSub, Nat.reduceDiv, Nat.reduceMod, Nat.reduceLT, Nat.reduceLeDiff, Nat.reduceBEq, Nat.reduceBNe, Nat.reduceEqDiff, Nat.reduceShiftLeft, Nat.reduceShiftRight, Nat.reduceOr, Nat.reduceAnd, Nat.reducePow, Nat.reduceSucc, Int.reduceToNat, Int.reduceAdd, Int.reduceSub, Int.reduceMul, Int.reduceNeg, Int.reduceTMod, Int.reduceTDiv, Int.reduceDiv, Int.reduceMod, Int.reducePow, Int.reduceLT, Int.reduceLE, Int.reduceEq, Int.reduceBEq, Int.reduceBNe, Int.reduceNe, reduceIte, reduceCtorEq, Int.cast_ofNat_Int, implies_true, forall_const, wrap64]
        · simp (maxSteps := 1000000) -implicitDefEqProofs only [go_sem, Nat.reduceAdd, Nat.reduceMul, Nat.reduceSub, Nat.reduceDiv, Nat.reduceMod, Nat.reduceLT, Nat.reduceLeDiff, Nat.reduceBEq, Nat.reduceBNe, Nat.reduceEqDiff, Nat.reduceShiftLeft, Nat.reduceShiftRight, Nat.reduceOr, Nat.reduceAnd, Nat.reducePow, Nat.reduceSucc, Int.reduceToNat, Int.reduceAdd, Int.reduceSub, Int.reduceMul, Int.reduceNeg, Int.reduceTMod, Int.reduceTDiv, Int.reduceDiv, Int.reduceMod, Int.reducePow, Int.reduceLT, Int.reduceLE, Int.reduceEq, Int.reduceBEq, Int.reduceBNe, Int.reduceNe, reduceIte, reduceCtorEq, Int.cast_ofNat_Int, implies_true, forall_const, h1, wrap64]
          rw [loopEq]
          simp (maxSteps := 1000000) -implicitDefEqProofs only [go_sem, Nat.reduceAdd, Nat.reduceMul, Nat.reduceSub, Nat.reduceDiv, Nat.reduceMod, Nat.reduceLT, Nat.reduceLeDiff, Nat.reduceBEq, Nat.reduceBNe, Nat.reduceEqDiff, Nat.reduceShiftLeft, Nat.reduceShiftRight, Nat.reduceOr, Nat.reduceAnd, Nat.reducePow, Nat.reduceSucc, Int.reduceToNat, Int.reduceAdd, Int.reduceSub, Int.reduceMul, Int.reduceNeg, Int.reduceTMod, Int.reduceTDiv, Int.reduceDiv, Int.reduceMod, Int.reducePow, Int.reduceLT, Int.reduceLE, Int.reduceEq, Int.reduceBEq, Int.reduceBNe, Int.reduceNe, reduceIte, reduceCtorEq, Int.cast_ofNat_Int, implies_true, forall_const, wrap64]
      · rw [a2]
        rcases hk0 with rfl | rfl | rfl
        · simp (maxSteps := 1000000) -implicitDefEqProofs only [go_sem, Nat.reduceAdd, Nat.reduceMul, Nat.reduceSub, Nat.reduceDiv, Nat.reduceMod, Nat.reduceLT, Nat.reduceLeDiff, Nat.reduceBEq, Nat.reduceBNe, Nat.reduceEqDiff, Nat.reduceShiftLeft, Nat.reduceShiftRight, Nat.reduceOr, Nat.reduceAnd, Nat.reducePow, Nat.reduceSucc, Int.reduceToNat, Int.reduceAdd, Int.reduceSub, Int.reduceMul, Int.reduceNeg, Int.reduceTMod, Int.reduceTDiv, Int.reduceDiv, Int.reduceMod, Int.reducePow, Int.reduceLT, Int.reduceLE, Int.reduceEq, Int.reduceBEq, Int.reduceBNe, Int.reduceNe, reduceIte, reduceCtorEq, Int.cast_ofNat_Int, implies_true, forall_const, h1, wrap64]
          rw [loopEq]
          simp (maxSteps := 1000000) -implicitDefEqProofs only [go_sem, Nat.reduceAdd, Nat.reduceMul, Nat.reduceSub, Nat.reduceDiv, Nat.reduceMod, Nat.reduceLT, Nat.reduceLeDiff, Nat.reduceBEq, Nat.reduceBNe, Nat.reduceEqDiff, Nat.reduceShiftLeft, Nat.reduceShiftRight, Nat.reduceOr, Nat.reduceAnd, Nat.reducePow, Nat.reduceSucc, Int.reduceToNat, Int.reduceAdd, Int.reduceSub, Int.reduceMul, Int.reduceNeg, Int.reduceTMod, Int.reduceTDiv, Int.reduceDiv, Int.reduceMod, Int.reducePow, Int.reduceLT, Int.reduceLE, Int.reduceEq, Int.reduceBEq, Int.reduceBNe, Int.reduceNe, reduceIte, reduceCtorEq, Int.cast_ofNat_Int, implies_true, forall_const, wrap64]
        · simp (maxSteps := 1000000) -implicitDefEqProofs only [go_sem, Nat.reduceAdd, Nat.reduceMul, Nat.reduceSub, Nat.reduceDiv, Nat.reduceMod, Nat.reduceLT, Nat.reduceLeDiff, Nat.reduceBEq, Nat.reduceBNe, Nat.reduceEqDiff, Nat.reduceShiftLeft, Nat.reduceShiftRight, Nat.reduceOr, Nat.reduceAnd, Nat.reducePow, Nat.reduceSucc, Int.reduceToNat, Int.reduceAdd, Int.reduceSub, Int.reduceMul, Int.reduceNeg, Int.reduceTMod, Int.reduceTDiv, Int.reduceDiv, Int.reduceMod, Int.reducePow, Int.reduceLT, Int.reduceLE, Int.reduceEq, Int.reduceBEq, Int.reduceBNe, Int.reduceNe, reduceIte, reduceCtorEq, Int.cast_ofNat_Int, implies_true, forall_const, h1, wrap64]
          rw [loopEq]
          simp (maxSteps := 1000000) -implicitDefEqProofs only [go_sem, Nat.reduceAdd, Nat.reduceMul, Nat.reduceSub, Nat.reduceDiv, Nat.reduceMod, Nat.reduceLT, Nat.reduceLeDiff, Nat.reduceBEq, Nat.reduceBNe, Nat.reduceEqDiff, Nat.reduceShiftLeft, Nat.reduceShiftRight, Nat.reduceOr, Nat.reduceAnd, Nat.reducePow, Nat.reduceSucc, Int.reduceToNat, Int.reduceAdd, Int.reduceSub, Int.reduceMul, Int.reduceNeg, Int.reduceTMod, Int.reduceTDiv, Int.reduceDiv, Int.reduceMod, Int.reducePow, Int.reduceLT, Int.reduceLE, Int.reduceEq, Int.reduceBEq, Int.reduceBNe, Int.reduceNe, reduceIte, reduceCtorEq, Int.cast_ofNat_Int, implies_true, forall_const, wrap64]
        · simp (maxSteps := 1000000) -implicitDefEqProofs only [go_sem, Nat.reduceAdd, Nat.reduceMul, Nat.reduceSub, Nat.reduceDiv, Nat.reduceMod, Nat.reduceLT, Nat.reduceLeDiff, Nat.reduceBEq, Nat.reduceBNe, Nat.reduceEqDiff, Nat.reduceShiftLeft, Nat.reduceShiftRight, Nat.reduceOr, Nat.reduceAnd, Nat.reducePow, Nat.reduceSucc, Int.reduceToNat, Int.reduceAdd, Int.reduceSub, Int.reduceMul, Int.reduceNeg, Int.reduceTMod, Int.reduceTDiv, Int.reduceDiv, Int.reduceMod, Int.reducePow, Int.reduceLT, Int.reduceLE, Int.reduceEq, Int.reduceBEq, Int.reduceBNe, Int.reduceNe, reduceIte, reduceCtorEq, Int.cast_ofNat_Int, implies_true, forall_const, h1, wrap64]
          rw [loopEq]
          simp (maxSteps := 1000000) -implicitDefEqProofs only [go_sem, Nat.reduceAdd, Nat.reduceMul, Nat.reduceSub, Nat.reduceDiv, Nat.reduceMod, Nat.reduceLT, Nat.reduceLeDiff, Nat.reduceBEq, Nat.reduceBNe, Nat.reduceEqDiff, Nat.reduceShiftLeft, Nat.reduceShiftRight, Nat.reduceOr, Nat.reduceAnd, Nat.reducePow, Nat.reduceSucc, Int.reduceToNat, Int.reduceAdd, Int.reduceSub, Int.reduceMul, Int.reduceNeg, Int.reduceTMod, Int.reduceTDiv, Int.reduceDiv, Int.reduceMod, Int.reducePow, Int.reduceLT, Int.reduceLE, Int.reduceEq, Int.reduceBEq, Int.reduceBNe, Int.reduceNe, reduceIte, reduceCtorEq, Int.cast_ofNat_Int, implies_true, forall_const, wrap64]
    rw [step 0 s0 (by omega) (by omega), show (0 : Int) + 1 = 1 from rfl, k1, step 1 s1 (by omega) (by omega), show (1 : Int) + 1 = 2 from rfl, k2, step 2 s2 (by omega) (by omega), show (2 : Int) + 1 = 3 from rfl, k3]
    unfold L68b
    rw [loopEq]
    rcases none_or_some (l := s3.l) with ⟨a1, a2⟩ | ⟨a1, a2⟩
    · have := hfn a1
      rw [a2, this]
      simp (maxSteps := 1000000) -implicitDefEqProofs only [go_sem, Nat.reduceAdd, Nat.reduceMul, Nat.reduceSub, Nat.reduceDiv, Nat.reduceMod, Nat.reduceLT, Nat.reduceLeDiff, Nat.reduceBEq, Nat.reduceBNe, Nat.reduceEqDiff, Nat.reduceShiftLeft, Nat.reduceShiftRight, Nat.reduceOr, Nat.reduceAnd, Nat.reducePow, Nat.reduceSucc, Int.reduceToNat, Int.reduceAdd, Int.reduceSub, Int.reduceMul, Int.reduceNeg, Int.reduceTMod, Int.reduceTDiv, Int.reduceDiv, Int.reduceMod, Int.reducePow, Int.reduceLT, Int.reduceLE, Int.reduceEq, Int.reduceBEq, Int.reduceBNe, Int.reduceNe, reduceIte, reduceCtorEq, Int.cast_ofNat_Int, implies_true, forall_const, h1, wrap64]
      rw [loopEq]
      simp (maxSteps := 1000000) -implicitDefEqProofs only [go_sem, Nat.reduceAdd, Nat.reduceMul, Nat.reduceSub, Nat.reduceDiv, Nat.reduceMod, Nat.reduceLT, Nat.reduceLeDiff, Nat.reduceBEq, Nat.reduceBNe, Nat.reduceEqDiff, Nat.reduceShiftLeft, Nat.reduceShiftRight, Nat.reduceOr, Nat.reduceAnd, Nat.reducePow, Nat.reduceSucc, Int.reduceToNat, Int.reduceAdd, Int.reduceSub, Int.reduceMul, Int.reduceNeg, Int.reduceTMod, Int.reduceTDiv, Int.reduceDiv, Int.reduceMod, Int.reducePow, Int.reduceLT, Int.reduceLE, Int.reduceEq, Int.reduceBEq, Int.reduceBNe, Int.reduceNe, reduceIte, reduceCtorEq, Int.cast_ofNat_Int, implies_true, forall_const, h1, wrap64, slV]
    · rw [a2]
      have hz : ((s3.l.length : Int) == 0) = false := by
        have : s3.l.length ≠ 0 := fun e => a1 (List.eq_nil_of_length_eq_zero e)
        simp; omega
      have hne : s3.l.map (fun n => V.int .i64 n) ≠ [] := by simpa using a1
      rw [slV_ne _ _ hne]
      simp (maxSteps := 1000000) -implicitDefEqProofs only [go_sem, Nat.reduceAdd, Nat.reduceMul, Nat.reduceSub, Nat.reduceDiv, Nat.reduceMod, Nat.reduceLT, Nat.reduceLeDiff, Nat.reduceBEq, Nat.reduceBNe, Nat.reduceEqDiff, Nat.reduceShiftLeft, Nat.reduceShiftRight, Nat.reduceOr, Nat.reduceAnd, Nat.reducePow, Nat.reduceSucc, Int.reduceToNat, Int.reduceAdd, Int.reduceSub, Int.reduceMul, Int.reduceNeg, Int.reduceTMod, Int.reduceTDiv, Int.reduceDiv, Int.reduceMod, Int.reducePow, Int.reduceLT, Int.reduceLE, Int.reduceEq, Int.reduceBEq, Int.reduceBNe, Int.reduceNe, reduceIte, reduceCtorEq, Int.cast_ofNat_Int, implies_true, forall_const, h1, wrap64]
      rw [loopEq]
      simp (maxSteps := 1000000) -implicitDefEqProofs only [go_sem, Nat.reduceAdd, Nat.reduceMul, Nat.reduceSub, Nat.reduceDiv, Nat.reduceMod, Nat.reduceLT, Nat.reduceLeDiff, Nat.reduceBEq, Nat.reduceBNe, Nat.reduceEqDiff, Nat.reduceShiftLeft, Nat.reduceShiftRight, Nat.reduceOr, Nat.reduceAnd, Nat.reducePow, Nat.reduceSucc, Int.reduceToNat, Int.reduceAdd, Int.reduceSub, Int.reduceMul, Int.reduceNeg, Int.reduceTMod, Int.reduceTDiv, Int.reduceDiv, Int.reduceMod, Int.reducePow, Int.reduceLT, Int.reduceLE, Int.reduceEq, Int.reduceBEq, Int.reduceBNe, Int.reduceNe, reduceIte, reduceCtorEq, Int.cast_ofNat_Int, implies_true, forall_const, h1, wrap64, hz]
  · have h0 : ¬ ckM l m = 0 := by simpa using h
    rw [if_neg h0]
    simp (maxSteps := 1000000) -implicitDefEqProofs only [go_sem, Nat.reduceAdd, Nat.reduceMul, Nat.reduceSub, Nat.reduceDiv, Nat.reduceMod, Nat.reduceLT, Nat.reduceLeDiff, Nat.reduceBEq, Nat.reduceBNe, Nat.reduceEqDiff, Nat.reduceShiftLeft, Nat.reduceShiftRight, Nat.reduceOr, Nat.reduceAnd, Nat.reducePow, Nat.reduceSucc, Int.reduceToNat, Int.reduceAdd, Int.reduceSub, Int.reduceMul, Int.reduceNeg, Int.reduceTMod, Int.reduceTDiv, Int.reduceDiv, Int.reduceMod, Int.reducePow, Int.reduceLT, Int.reduceLE, Int.reduceEq, Int.reduceBEq, Int.reduceBNe, Int.reduceNe, reduceIte, reduceCtorEq, Int.cast_ofNat_Int, implies_true, forall_const, e1, e2, e3, e4, e5, e6, c115, h]
end Go.Den.FaT

namespace Go.Den.FaT
open Go Go.Proofs Go.Den
set_option linter.unusedVariables false
set_option linter.unusedSimpArgs false
set_option maxRecDepth 100000
set_option maxHeartbeats 2000000 in
theorem c74 (b c : Bool) (l m : List (Int × Int)) (hb : l.length < 1000) (hm : l.length = m.length) (hl : ∀ p ∈ l, bnd 1000 p) (hq : ∀ p ∈ m, bnd 1000 p) :
    (lim T).call 74 [.sl b 2 (l.map fun p => .agg [.int .i64 p.1, .int .i64 p.2]), .sl c 2 (m.map fun p => .agg [.int .i64 p.1, .int .i64 p.2])] [] 0 [] =
      some (.tup [.agg [.int .i64 (frm l m).n, .int .i64 (frm l m).x, .int .i64 (frm l m).y], slV 1 ((frm l m).l.map fun n => .int .i64 n), .int .i64 (cond (((frm l m).l.length : Int) == 0) 7 0)], [], 0, []) := by
  have h1 := idx_out l.length
  have k0 := loop74i b c 0 l m hb hm (by omega) hl hq 0 (by omega) ⟨0, 0, 0, []⟩
  have k1 := loop74i b c 1 l m hb hm (by omega) hl hq 0 (by omega)
  have k2 := loop74i b c 2 l m hb hm (by omega) hl hq 0 (by omega)
  have k3 := loop74i b c 3 l m hb hm (by omega) hl hq 0 (by omega)
  simp only [show ((0 : Nat) : Int) = 0 from rfl, List.drop_zero, List.map_nil] at k0 k1 k2 k3
  conv at k0 => lhs; rw [show slV 1 [] = .sl false 0 [] from rfl]
  unfold frm
  generalize hs0 : inn 0 l m l m ⟨0, 0, 0, []⟩ = s0 at k0 ⊢
  replace k1 := k1 s0
  generalize hs1 : inn 1 l m l m s0 = s1 at k1 ⊢
  replace k2 := k2 s1
  generalize hs2 : inn 2 l m l m s1 = s2 at k2 ⊢
  replace k3 := k3 s2
  generalize hs3 : inn 3 l m l m s2 = s3 at k3 ⊢
  rw [ent74]
  simp (maxSteps := 1000000) -implicitDefEqProofs only [go_sem, Nat.reduceAdd, Nat.reduceMul, Nat.reduceSub, Nat.reduceDiv, Nat.reduceMod, Nat.reduceLT, Nat.reduceLeDiff, Nat.reduceBEq, Nat.reduceBNe, Nat.reduceEqDiff, Nat.reduceShiftLeft, Nat.reduceShiftRight, Nat.reduceOr, Nat.reduceAnd, Nat.reducePow, Nat.reduceSucc, Int.reduceToNat, Int.reduceAdd, Int.reduceSub, Int.reduceMul, Int.reduceNeg, Int.reduceTMod, Int.reduceTDiv, Int.reduceDiv, Int.reduceMod, Int.reducePow, Int.reduceLT, Int.reduceLE, Int.reduceEq, Int.reduceBEq, Int.reduceBNe, Int.reduceNe, reduceIte, reduceCtorEq, Int.cast_ofNat_Int, implies_true, forall_const]
  rw [loopEq]
  simp (maxSteps := 1000000) -implicitDefEqProofs only [go_sem, Nat.reduceAdd, Nat.reduceMul, Nat.reduceSub, Nat.reduceDiv, Nat.reduceMod, Nat.reduceLT, Nat.reduceLeDiff, Nat.reduceBEq, Nat.reduceBNe, Nat.reduceEqDiff, Nat.reduceShiftLeft, Nat.reduceShiftRight, Nat.reduceOr, Nat.reduceAnd, Nat.reducePow, Nat.reduceSucc, Int.reduceToNat, Int.reduceAdd, Int.reduceSub, Int.reduceMul, Int.reduceNeg, Int.reduceTMod, Int.reduceTDiv, Int.reduceDiv, Int.reduceMod, Int.reducePow, Int.reduceLT, Int.reduceLE, Int.reduceEq, Int.reduceBEq, Int.reduceBNe, Int.reduceNe, reduceIte, reduceCtorEq, Int.cast_ofNat_Int, implies_true, forall_const, k0]
  rw [loopEq]
  simp (maxSteps := 1000000) -implicitDefEqProofs only [go_sem, Nat.reduceAdd, Nat.reduceMul, Nat.reduceSub, Nat.reduceDiv, Nat.reduceMod, Nat.reduceLT, Nat.reduceLeDiff, Nat.reduceBEq, Nat.reduceBNe, Nat.reduceEqDiff, Nat.reduceShiftLeft, Nat.reduceShiftRight, Nat.reduceOr, Nat.reduceAnd, Nat.reducePow, Nat.reduceSucc, Int.reduceToNat, Int.reduceAdd, Int.reduceSub, Int.reduceMul, Int.reduceNeg, Int.reduceTMod, Int.reduceTDiv, Int.reduceDiv, Int.reduceMod, Int.reducePow, Int.reduceLT, Int.reduceLE, Int.reduceEq, Int.reduceBEq, Int.reduceBNe, Int.reduceNe, reduceIte, reduceCtorEq, Int.cast_ofNat_Int, implies_true, forall_const, h1, wrap64]
  rw [loopEq]
  simp (maxSteps := 1000000) -implicitDefEqProofs only [go_sem, Nat.reduceAdd, Nat.reduceMul, Nat.reduceSub, Nat.reduceDiv, Nat.reduceMod, Nat.reduceLT, Nat.reduceLeDiff, Nat.reduceBEq, Nat.reduceBNe, Nat.reduceEqDiff, Nat.reduceShiftLeft, Nat.reduceShiftRight, Nat.reduceOr, Nat.reduceAnd, Nat.reducePow, Nat.reduceSucc, Int.reduceToNat, Int.reduceAdd, Int.reduceSub, Int.reduceMul, Int.reduceNeg, Int.reduceTMod, Int.reduceTDiv, Int.reduceDiv, Int.reduceMod, Int.reducePow, Int.reduceLT, Int.reduceLE, Int.reduceEq, Int.reduceBEq, Int.reduceBNe, Int.reduceNe, reduceIte, reduceCtorEq, Int.cast_ofNat_Int, implies_true, forall_const, k1]
  rw [loopEq]
  simp (maxSteps := 1000000) -implicitDefEqProofs only [go_sem, Nat.reduceAdd, Nat.reduceMul, Nat.reduceSub, Nat.reduceDiv, Nat.reduceMod, Nat.reduceLT, Nat.reduceLeDiff, Nat.reduceBEq, Nat.reduceBNe, Nat.reduceEqDiff, Nat.reduceShiftLeft, Nat.reduceShiftRight, Nat.reduceOr, Nat.reduceAnd, Nat.reducePow, Nat.reduceSucc, Int.reduceToNat, Int.reduceAdd, Int.reduceSub, Int.reduceMul, Int.reduceNeg, Int.reduceTMod, Int.reduceTDiv, Int.reduceDiv, Int.reduceMod, Int.reducePow, Int.reduceLT, Int.reduceLE, Int.reduceEq, Int.reduceBEq, Int.reduceBNe, Int.reduceNe, reduceIte, reduceCtorEq, Int.cast_ofNat_Int, implies_true, forall_const, h1, wrap64]
  rw [loopEq]
  simp (maxSteps := 1000000) -implicitDefEqProofs only [go_sem, Nat.reduceAdd, Nat.reduceMul, Nat.reduceSub, Nat.reduceDiv, Nat.reduceMod, Nat.reduceLT, Nat.reduceLeDiff, Nat.reduceBEq, Nat.reduceBNe, Nat.reduceEqDiff, Nat.reduceShiftLeft, Nat.reduceShiftRight, Nat.reduceOr, Nat.reduceAnd, Nat.reducePow, Nat.reduceSucc, Int.reduceToNat, Int.reduceAdd, Int.reduceSub, Int.reduceMul, Int.reduceNeg, Int.reduceTMod, Int.reduceTDiv, Int.reduceDiv, Int.reduceMod, Int.reducePow, Int.reduceLT, Int.reduceLE, Int.reduceEq, Int.reduceBEq, Int.reduceBNe, Int.reduceNe, reduceIte, reduceCtorEq, Int.cast_ofNat_Int, implies_true, forall_const, k2]
  rw [loopEq]
  simp (maxSteps := 1000000) -implicitDefEqProofs only [go_sem, Nat.reduceAdd, Nat.reduceMul, Nat.reduceSub, Nat.reduceDiv, Nat.reduceMod, Nat.reduceLT, Nat.reduceLeDiff, Nat.reduceBEq, Nat.reduceBNe, Nat.reduceEqDiff, Nat.reduceShiftLeft, Nat.reduceShiftRight, Nat.reduceOr, Nat.reduceAnd, Nat.reducePow, Nat.reduceSucc, Int.reduceToNat, Int.reduceAdd, Int.reduceSub, Int.reduceMul, Int.reduceNeg, Int.reduceTMod, Int.reduceTDiv, Int.reduceDiv, Int.reduceMod, Int.reducePow, Int.reduceLT, Int.reduceLE, Int.reduceEq, Int.reduceBEq, Int.reduceBNe, Int.reduceNe, reduceIte, reduceCtorEq, Int.cast_ofNat_Int, implies_true, forall_const, h1, wrap64]
  rw [loopEq]
  simp (maxSteps := 1000000) -implicitDefEqProofs only [go_sem, Nat.reduceAdd, Nat.reduceMul, Nat.reduceSub, Nat.reduceDiv, Nat.reduceMod, Nat.reduceLT, Nat.reduceLeDiff, Nat.reduceBEq, Nat.reduceBNe, Nat.reduceEqDiff, Nat.reduceShiftLeft, Nat.reduceShiftRight, Nat.reduceOr, Nat.reduceAnd, Nat.reducePow, Nat.reduceSucc, Int.reduceToNat, Int.reduceAdd, Int.reduceSub, Int.reduceMul, Int.reduceNeg, Int.reduceTMod, Int.reduceTDiv, Int.reduceDiv, Int.reduceMod, Int.reducePow, Int.reduceLT, Int.reduceLE, Int.reduceEq, Int.reduceBEq, Int.reduceBNe, Int.reduceNe, reduceIte, reduceCtorEq, Int.cast_ofNat_Int, implies_true, forall_const, k3]
  rw [loopEq]
  simp (maxSteps := 1000000) -implicitDefEqProofs only [go_sem, Nat.reduceAdd, Nat.reduceMul, Nat.reduceSub, Nat.reduceDiv, Nat.reduceMod, Nat.reduceLT, Nat.reduceLeDiff, Nat.reduceBEq, Nat.reduceBNe, Nat.reduceEqDiff, Nat.reduceShiftLeft, Nat.reduceShiftRight, Nat.reduceOr, Nat.reduceAnd, Nat.reducePow, Nat.reduceSucc, Int.reduceToNat, Int.reduceAdd, Int.reduceSub, Int.reduceMul, Int.reduceNeg, Int.reduceTMod, Int.reduceTDiv, Int.reduceDiv, Int.reduceMod, Int.reducePow, Int.reduceLT, Int.reduceLE, Int.reduceEq, Int.reduceBEq, Int.reduceBNe, Int.reduceNe, reduceIte, reduceCtorEq, Int.cast_ofNat_Int, implies_true, forall_const, h1, wrap64]
  rw [loopEq]
  simp (maxSteps := 1000000) -implicitDefEqProofs only [go_sem, Nat.reduceAdd, Nat.reduceMul, Nat.reduceSub, Nat.reduceDiv, Nat.reduceMod, Nat.reduceLT, Nat.reduceLeDiff, Nat.reduceBEq, Nat.reduceBNe, Nat.reduceEqDiff, Nat.reduceShiftLeft, Nat.reduceShiftRight, Nat.reduceOr, Nat.reduceAnd, Nat.reducePow, Nat.reduceSucc, Int.reduceToNat, Int.reduceAdd, Int.reduceSub, Int.reduceMul, Int.reduceNeg, Int.reduceTMod, Int.reduceTDiv, Int.reduceDiv, Int.reduceMod, Int.reducePow, Int.reduceLT, Int.reduceLE, Int.reduceEq, Int.reduceBEq, Int.reduceBNe, Int.reduceNe, reduceIte, reduceCtorEq, Int.cast_ofNat_Int, implies_true, forall_const, c39]
end Go.Den.FaT

namespace Go.Den.FaT
open Go Go.Proofs Go.Den
set_option linter.unusedVariables false
set_option linter.unusedSimpArgs false
set_option maxRecDepth 100000

theorem ckM_eq (l m : List (Int × Int)) : fnz [cond ((l.length : Int) == 0) 12 0, cond (decide (8 < (l.length : Int))) 5 0, fnz (l.map fun p => ckP p.1 p.2), cond ((l.length : Int) != m.length) 2 0, fnz (m.map fun p => ckP p.1 p.2)] = ckM l m := by
  unfold ckM
  have e : ((m.length : Int) != l.length) = ((l.length : Int) != m.length) := by
    rw [Bool.eq_iff_iff]; simp; omega
  rw [e]
  simp only [fnz]
  by_cases h : cond ((l.length : Int) == 0) (12 : Int) 0 = 0
  · by_cases h' : cond (decide (8 < (l.length : Int))) (5 : Int) 0 = 0
    · simp [h, h']
    · simp [h, h']
  · simp [h]
theorem c24z (b : Bool) (l : List Int) (e bad : Int) (hb : l.length < 4611686018427387904) (hbad : bad ≠ 0) : (lim T).call 24 [.sl b 1 (l.map fun n => .int .i64 n), .int .i64 e, .int .i64 bad, .sl false 0 []] [] 0 [] =
    some (.bool (decide (l = []) && (e == bad)), [], 0, []) := by
  rw [ent24]
  have h : (bad != 0) = true := by simpa using hbad
  have h3 := c89n b l hb
  cases h2 : decide (l = [])
  · simp (maxSteps := 1000000) -implicitDefEqProofs only [go_sem, Nat.reduceAdd, Nat.reduceMul, Nat.reduceSub, Nat.reduceDiv, Nat.reduceMod, Nat.reduceLT, Nat.reduceLeDiff, Nat.reduceBEq, Nat.reduceBNe, Nat.reduceEqDiff, Nat.reduceShiftLeft, Nat.reduceShiftRight, Nat.reduceOr, Nat.reduceAnd, Nat.reducePow, Nat.reduceSucc, Int.reduceToNat, Int.reduceAdd, Int.reduceSub, Int.reduceMul, Int.reduceNeg, Int.reduceTMod, Int.reduceTDiv, Int.reduceDiv, Int.reduceMod, Int.reducePow, Int.reduceLT, Int.reduceLE, Int.reduceEq, Int.reduceBEq, Int.reduceBNe, Int.reduceNe, reduceIte, reduceCtorEq, Int.cast_ofNat_Int, implies_true, forall_const, h, h3, h2]
  · simp (maxSteps := 1000000) -implicitDefEqProofs only [go_sem, Nat.reduceAdd, Nat.reduceMul, Nat.reduceSub, Nat.reduceDiv, Nat.reduceMod, Nat.reduceLT, Nat.reduceLeDiff, Nat.reduceBEq, Nat.reduceBNe, Nat.reduceEqDiff, Nat.reduceShiftLeft, Nat.reduceShiftRight, Nat.reduceOr, Nat.reduceAnd, Nat.reducePow, Nat.reduceSucc, Int.reduceToNat, Int.reduceAdd, Int.reduceSub, Int.reduceMul, Int.reduceNeg, Int.reduceTMod, Int.reduceTDiv, Int.reduceDiv, Int.reduceMod, Int.reducePow, Int.reduceLT, Int.reduceLE, Int.reduceEq, Int.reduceBEq, Int.reduceBNe, Int.reduceNe, reduceIte, reduceCtorEq, Int.cast_ofNat_Int, implies_true, forall_const, h, h3, h2]
/-- carried, as the program and as the reference have it -/
theorem carr_ref {n sx sy x y : Int} (h : fnz [ckF n sx sy, ckP x y] = 0) : (IntKind.i64.wrap ((rot n.toNat (x, y)).1 + sx), IntKind.i64.wrap ((rot n.toNat (x, y)).2 + sy)) = carr n sx sy x y ∧ 0 ≤ n ∧ n ≤ 3 ∧
    rot (4 - n).toNat (IntKind.i64.wrap (x - sx), IntKind.i64.wrap (y - sy)) = trn ((4 - n) % 4) (IntKind.i64.wrap (x - sx)) (IntKind.i64.wrap (y - sy)) := by
  have h := fnz_zero.1 h
  obtain ⟨hn, hs⟩ := ckF_bnd (h (ckF n sx sy) (by simp))
  have hp := ckP_bnd (h (ckP x y) (by simp))
  have hp' : bnd 1000000 (x, y) := bnd_mono (by omega) hp
  refine ⟨?_, hn.1, hn.2, ?_⟩
  · rw [rot_tr n hn hp']
    unfold carr
    rw [trn_tr n hp']
  · have hd : bnd 1000000 (IntKind.i64.wrap (x - sx), IntKind.i64.wrap (y - sy)) := by
      unfold bnd at hs hp ⊢
      dsimp only at hs hp ⊢
      rw [wrap64 (by omega) (by omega), wrap64 (by omega) (by omega)]
      omega
    generalize hq : (IntKind.i64.wrap (x - sx), IntKind.i64.wrap (y - sy)) = q at hd
    have hq1 : IntKind.i64.wrap (x - sx) = q.1 := by rw [← hq]
    have hq2 : IntKind.i64.wrap (y - sy) = q.2 := by rw [← hq]
    rw [hq1, hq2]
    have h3 : n = 0 ∨ n = 1 ∨ n = 2 ∨ n = 3 := by omega
    rw [trn_tr _ hd]
    rcases h3 with rfl | rfl | rfl | rfl
    · have h4 := rot_tr 3 (by omega) hd
      have hd3 := tr_bnd 3 hd
      show rot 4 q = _
      have w1 := wrap64 (n := 0 - q.1) (by unfold bnd at hd; omega) (by unfold bnd at hd; omega)
      have w2 := wrap64 (n := 0 - q.2) (by unfold bnd at hd; omega) (by unfold bnd at hd; omega)
      have w3 := wrap64 (n := 0 - (0 - q.2)) (by unfold bnd at hd; omega) (by unfold bnd at hd; omega)
      have w4 := wrap64 (n := 0 - (0 - q.1)) (by unfold bnd at hd; omega) (by unfold bnd at hd; omega)
      simp only [rot, w1, w2, w3, w4]
      simp [tr]
    · exact rot_tr 3 (by omega) hd
    · exact rot_tr 2 (by omega) hd
    · exact rot_tr 1 (by omega) hd

theorem stp_len {n : Int} {l m : List (Int × Int)} {p q : Int × Int} {s : FrS} (h : s.l.length ≤ l.length) : (stp n l m p q s).l.length ≤ l.length := by
  unfold stp
  split
  · split
    · exact agr_len _ _ _ _ _ _
    · exact h
  · exact h
theorem inn_len {n : Int} {l m : List (Int × Int)} : ∀ (ps qs : List (Int × Int)) (s : FrS), s.l.length ≤ l.length → (inn n l m ps qs s).l.length ≤ l.length := by
  intro ps
  induction ps with
  | nil => intro qs s h; exact h
  | cons p ps ih =>
    intro qs s h
    cases qs with
    | nil => exact h
    | cons q qs => exact ih qs _ (stp_len h)
theorem frm_len (l m : List (Int × Int)) : (frm l m).l.length ≤ l.length := inn_len _ _ _ (inn_len _ _ _ (inn_len _ _ _ (inn_len _ _ _ (by simp))))

end Go.Den.FaT

namespace Go.Den.FaT
open Go Go.Proofs Go.Den
set_option linter.unusedVariables false
set_option linter.unusedSimpArgs false
set_option maxRecDepth 100000
set_option maxHeartbeats 8000000 in
theorem c9a (haw : (lim T).call 16 [] [] 0 [] = some (.bool true, [], 0, [])) (n sx sy x y : Int) (b c : Bool) (l m : List (Int × Int)) (hl : decide (9 < (l.length : Int)) = false) (hm : decide (9 < (m.length : Int)) = false)
    (h1 : (fnz [ckF n sx sy, ckP x y] == 0) = false) (h2 : (ckM l m == 0) = false) :
    (lim T).call 9 [.agg [.int .i64 n, .int .i64 sx, .int .i64 sy], .agg [.int .i64 x, .int .i64 y], .agg [.sl b 2 (l.map fun p => .agg [.int .i64 p.1, .int .i64 p.2]), .sl c 2 (m.map fun p => .agg [.int .i64 p.1, .int .i64 p.2])]] [] 0 [] = some (.bool true, [], 0, []) := by
  rw [ent9]
  have hl' : l.length < 1000 := by simp at hl; omega
  have hm' : m.length < 1000 := by simp at hm; omega
  have e66 := c66 n sx sy x y
  have e67 := c67 n sx sy x y
  have e68 := c68 true true l m hl' hm'
  have e73 := c73 b c l m (by omega) (by omega)
  rw [ckM_eq] at e73
  have e30 := c30_2 true (ckF n sx sy) (ckP x y)
  have e47 := c47 b l (by omega)
  have e47' := c47 c m (by omega)
  have hcr := carr_ref (n := n) (sx := sx) (sy := sy) (x := x) (y := y)
  have hfr := fun h => c74 b c l m hl' (ckM_ok (l := l) (m := m) h).2.2.1 (ckM_ok h).2.2.2.1 (ckM_ok h).2.2.2.2
  have e71 := fun h => c71 n sx sy x y h
  have e72 := fun h => c72 n sx sy x y h
  generalize hE : fnz [ckF n sx sy, ckP x y] = E at e66 e67 e30 hcr h1
  generalize hM : ckM l m = M at e68 e73 hfr h2
  have hEE : (E == E) = true := by simp
  have hMM : (M == M) = true := by simp
  have h1' : ¬ E = 0 := by simpa using h1
  rw [if_neg h1'] at e66 e67
  have h2' : ¬ M = 0 := by simpa using h2
  rw [if_neg h2'] at e68
  have e24 := c24z false [] M M (by simp) h2'
  simp only [List.map_nil] at e24
  simp (maxSteps := 1000000) -implicitDefEqProofs only [go_sem, Nat.reduceAdd, Nat.reduceMul, Nat.reduceSub, Nat.reduceDiv, Nat.reduceMod, Nat.reduceLT, Nat.reduceLeDiff, Nat.reduceBEq, Nat.reduceBNe, Nat.reduceEqDiff, Nat.reduceShiftLeft, Nat.reduceShiftRight, Nat.reduceOr, Nat.reduceAnd, Nat.reducePow, Nat.reduceSucc, Int.reduceToNat, Int.reduceAdd, Int.reduceSub, Int.reduceMul, Int.reduceNeg, Int.reduceTMod, Int.reduceTDiv, Int.reduceDiv, Int.reduceMod, Int.reducePow, Int.reduceLT, Int.reduceLE, Int.reduceEq, Int.reduceBEq, Int.reduceBNe, Int.reduceNe, reduceIte, reduceCtorEq, Int.cast_ofNat_Int, implies_true, forall_const, hl, hm, e66, e67, e68, e73, e30, c69, c70, h1, h2, haw, e47, e47', e24]
end Go.Den.FaT

namespace Go.Den.FaT
open Go Go.Proofs Go.Den
set_option linter.unusedVariables false
set_option linter.unusedSimpArgs false
set_option maxRecDepth 100000
set_option maxHeartbeats 8000000 in
theorem c9b (haw : (lim T).call 16 [] [] 0 [] = some (.bool true, [], 0, [])) (n sx sy x y : Int) (b c : Bool) (l m : List (Int × Int)) (hl : decide (9 < (l.length : Int)) = false) (hm : decide (9 < (m.length : Int)) = false)
    (h1 : (fnz [ckF n sx sy, ckP x y] == 0) = false) (h2 : (ckM l m == 0) = true) :
    (lim T).call 9 [.agg [.int .i64 n, .int .i64 sx, .int .i64 sy], .agg [.int .i64 x, .int .i64 y], .agg [.sl b 2 (l.map fun p => .agg [.int .i64 p.1, .int .i64 p.2]), .sl c 2 (m.map fun p => .agg [.int .i64 p.1, .int .i64 p.2])]] [] 0 [] = some (.bool true, [], 0, []) := by
  rw [ent9]
  have hl' : l.length < 1000 := by simp at hl; omega
  have hm' : m.length < 1000 := by simp at hm; omega
  have e66 := c66 n sx sy x y
  have e67 := c67 n sx sy x y
  have e68 := c68 true true l m hl' hm'
  have e73 := c73 b c l m (by omega) (by omega)
  rw [ckM_eq] at e73
  have e30 := c30_2 true (ckF n sx sy) (ckP x y)
  have e47 := c47 b l (by omega)
  have e47' := c47 c m (by omega)
  have hcr := carr_ref (n := n) (sx := sx) (sy := sy) (x := x) (y := y)
  have hfr := fun h => c74 b c l m hl' (ckM_ok (l := l) (m := m) h).2.2.1 (ckM_ok h).2.2.2.1 (ckM_ok h).2.2.2.2
  have e71 := fun h => c71 n sx sy x y h
  have e72 := fun h => c72 n sx sy x y h
  generalize hE : fnz [ckF n sx sy, ckP x y] = E at e66 e67 e30 hcr h1
  generalize hM : ckM l m = M at e68 e73 hfr h2
  have hEE : (E == E) = true := by simp
  have hMM : (M == M) = true := by simp
  have h1' : ¬ E = 0 := by simpa using h1
  rw [if_neg h1'] at e66 e67
  have h2' : M = 0 := by simpa using h2
  rw [if_pos h2'] at e68
  have e74 := hfr h2'
  have hFl := frm_len l m
  generalize hF : frm l m = F at e68 e74 hFl
  have e24 := c24 (!(F.l.map fun n => V.int .i64 n).isEmpty) (!(F.l.map fun n => V.int .i64 n).isEmpty) F.l F.l (cond ((F.l.length : Int) == 0) 7 0) (cond ((F.l.length : Int) == 0) 7 0) (by omega)
  rw [show decide (F.l = (if (cond ((F.l.length : Int) == 0) (7 : Int) 0) = 0 then F.l else [])) = true from by
    by_cases hz : F.l = []
    · simp [hz]
    · have : ((F.l.length : Int) == 0) = false := by
        have : F.l.length ≠ 0 := fun e => hz (List.eq_nil_of_length_eq_zero e)
        simp; omega
      simp [this]] at e24
  simp (maxSteps := 1000000) -implicitDefEqProofs only [go_sem, Nat.reduceAdd, Nat.reduceMul, Nat.reduceSub, Nat.reduceDiv, Nat.reduceMod, Nat.reduceLT, Nat.reduceLeDiff, Nat.reduceBEq, Nat.reduceBNe, Nat.reduceEqDiff, Nat.reduceShiftLeft, Nat.reduceShiftRight, Nat.reduceOr, Nat.reduceAnd, Nat.reducePow, Nat.reduceSucc, Int.reduceToNat, Int.reduceAdd, Int.reduceSub, Int.reduceMul, Int.reduceNeg, Int.reduceTMod, Int.reduceTDiv, Int.reduceDiv, Int.reduceMod, Int.reducePow, Int.reduceLT, Int.reduceLE, Int.reduceEq, Int.reduceBEq, Int.reduceBNe, Int.reduceNe, reduceIte, reduceCtorEq, Int.cast_ofNat_Int, implies_true, forall_const, hl, hm, e66, e67, e68, e73, e30, c69, c70, h1, h2, haw, e47, e47', e74, e24]
end Go.Den.FaT

namespace Go.Den.FaT
open Go Go.Proofs Go.Den
set_option linter.unusedVariables false
set_option linter.unusedSimpArgs false
set_option maxRecDepth 100000
set_option maxHeartbeats 8000000 in
theorem c9c (haw : (lim T).call 16 [] [] 0 [] = some (.bool true, [], 0, [])) (n sx sy x y : Int) (b c : Bool) (l m : List (Int × Int)) (hl : decide (9 < (l.length : Int)) = false) (hm : decide (9 < (m.length : Int)) = false)
    (h1 : (fnz [ckF n sx sy, ckP x y] == 0) = true) (h2 : (ckM l m == 0) = false) :
    (lim T).call 9 [.agg [.int .i64 n, .int .i64 sx, .int .i64 sy], .agg [.int .i64 x, .int .i64 y], .agg [.sl b 2 (l.map fun p => .agg [.int .i64 p.1, .int .i64 p.2]), .sl c 2 (m.map fun p => .agg [.int .i64 p.1, .int .i64 p.2])]] [] 0 [] = some (.bool true, [], 0, []) := by
  rw [ent9]
  have hl' : l.length < 1000 := by simp at hl; omega
  have hm' : m.length < 1000 := by simp at hm; omega
  have e66 := c66 n sx sy x y
  have e67 := c67 n sx sy x y
  have e68 := c68 true true l m hl' hm'
  have e73 := c73 b c l m (by omega) (by omega)
  rw [ckM_eq] at e73
  have e30 := c30_2 true (ckF n sx sy) (ckP x y)
  have e47 := c47 b l (by omega)
  have e47' := c47 c m (by omega)
  have hcr := carr_ref (n := n) (sx := sx) (sy := sy) (x := x) (y := y)
  have hfr := fun h => c74 b c l m hl' (ckM_ok (l := l) (m := m) h).2.2.1 (ckM_ok h).2.2.2.1 (ckM_ok h).2.2.2.2
  have e71 := fun h => c71 n sx sy x y h
  have e72 := fun h => c72 n sx sy x y h
  generalize hE : fnz [ckF n sx sy, ckP x y] = E at e66 e67 e30 hcr h1
  generalize hM : ckM l m = M at e68 e73 hfr h2
  have hEE : (E == E) = true := by simp
  have hMM : (M == M) = true := by simp
  have h1' : E = 0 := by simpa using h1
  rw [if_pos h1'] at e66 e67
  obtain ⟨q1, q2, q3, q4⟩ := hcr h1'
  have e71 := e71 ⟨q2, q3⟩
  have e72 := e72 ⟨q2, q3⟩
  have q5 := congrArg Prod.fst q1
  have q6 := congrArg Prod.snd q1
  dsimp only at q5 q6
  rw [q5, q6] at e71
  rw [q4] at e72
  generalize carr n sx sy x y = K at e66 e71
  generalize trn ((4 - n) % 4) (IntKind.i64.wrap (x - sx)) (IntKind.i64.wrap (y - sy)) = L at e67 e72
  have k1 : (K.1 == K.1) = true := by simp
  have k2 : (K.2 == K.2) = true := by simp
  have k3 : (L.1 == L.1) = true := by simp
  have k4 : (L.2 == L.2) = true := by simp
  subst h1'
  have h2' : ¬ M = 0 := by simpa using h2
  rw [if_neg h2'] at e68
  have e24 := c24z false [] M M (by simp) h2'
  simp only [List.map_nil] at e24
  simp (maxSteps := 1000000) -implicitDefEqProofs only [go_sem, Nat.reduceAdd, Nat.reduceMul, Nat.reduceSub, Nat.reduceDiv, Nat.reduceMod, Nat.reduceLT, Nat.reduceLeDiff, Nat.reduceBEq, Nat.reduceBNe, Nat.reduceEqDiff, Nat.reduceShiftLeft, Nat.reduceShiftRight, Nat.reduceOr, Nat.reduceAnd, Nat.reducePow, Nat.reduceSucc, Int.reduceToNat, Int.reduceAdd, Int.reduceSub, Int.reduceMul, Int.reduceNeg, Int.reduceTMod, Int.reduceTDiv, Int.reduceDiv, Int.reduceMod, Int.reducePow, Int.reduceLT, Int.reduceLE, Int.reduceEq, Int.reduceBEq, Int.reduceBNe, Int.reduceNe, reduceIte, reduceCtorEq, Int.cast_ofNat_Int, implies_true, forall_const, hl, hm, e66, e67, e68, e73, e30, c69, c70, h1, h2, haw, e47, e47', e24, e71, e72, k1, k2, k3, k4]
end Go.Den.FaT

namespace Go.Den.FaT
open Go Go.Proofs Go.Den
set_option linter.unusedVariables false
set_option linter.unusedSimpArgs false
set_option maxRecDepth 100000
set_option maxHeartbeats 8000000 in
theorem c9d (haw : (lim T).call 16 [] [] 0 [] = some (.bool true, [], 0, [])) (n sx sy x y : Int) (b c : Bool) (l m : List (Int × Int)) (hl : decide (9 < (l.length : Int)) = false) (hm : decide (9 < (m.length : Int)) = false)
    (h1 : (fnz [ckF n sx sy, ckP x y] == 0) = true) (h2 : (ckM l m == 0) = true) :
    (lim T).call 9 [.agg [.int .i64 n, .int .i64 sx, .int .i64 sy], .agg [.int .i64 x, .int .i64 y], .agg [.sl b 2 (l.map fun p => .agg [.int .i64 p.1, .int .i64 p.2]), .sl c 2 (m.map fun p => .agg [.int .i64 p.1, .int .i64 p.2])]] [] 0 [] = some (.bool true, [], 0, []) := by
  rw [ent9]
  have hl' : l.length < 1000 := by simp at hl; omega
  have hm' : m.length < 1000 := by simp at hm; omega
  have e66 := c66 n sx sy x y
  have e67 := c67 n sx sy x y
  have e68 := c68 true true l m hl' hm'
  have e73 := c73 b c l m (by omega) (by omega)
  rw [ckM_eq] at e73
  have e30 := c30_2 true (ckF n sx sy) (ckP x y)
  have e47 := c47 b l (by omega)
  have e47' := c47 c m (by omega)
  have hcr := carr_ref (n := n) (sx := sx) (sy := sy) (x := x) (y := y)
  have hfr := fun h => c74 b c l m hl' (ckM_ok (l := l) (m := m) h).2.2.1 (ckM_ok h).2.2.2.1 (ckM_ok h).2.2.2.2
  have e71 := fun h => c71 n sx sy x y h
  have e72 := fun h => c72 n sx sy x y h
  generalize hE : fnz [ckF n sx sy, ckP x y] = E at e66 e67 e30 hcr h1
  generalize hM : ckM l m = M at e68 e73 hfr h2
  have hEE : (E == E) = true := by simp
  have hMM : (M == M) = true := by simp
  have h1' : E = 0 := by simpa using h1
  rw [if_pos h1'] at e66 e67
  obtain ⟨q1, q2, q3, q4⟩ := hcr h1'
  have e71 := e71 ⟨q2, q3⟩
  have e72 := e72 ⟨q2, q3⟩
  have q5 := congrArg Prod.fst q1
  have q6 := congrArg Prod.snd q1
  dsimp only at q5 q6
  rw [q5, q6] at e71
  rw [q4] at e72
  generalize carr n sx sy x y = K at e66 e71
  generalize trn ((4 - n) % 4) (IntKind.i64.wrap (x - sx)) (IntKind.i64.wrap (y - sy)) = L at e67 e72
  have k1 : (K.1 == K.1) = true := by simp
  have k2 : (K.2 == K.2) = true := by simp
  have k3 : (L.1 == L.1) = true := by simp
  have k4 : (L.2 == L.2) = true := by simp
  subst h1'
  have h2' : M = 0 := by simpa using h2
  rw [if_pos h2'] at e68
  have e74 := hfr h2'
  have hFl := frm_len l m
  generalize hF : frm l m = F at e68 e74 hFl
  have e24 := c24 (!(F.l.map fun n => V.int .i64 n).isEmpty) (!(F.l.map fun n => V.int .i64 n).isEmpty) F.l F.l (cond ((F.l.length : Int) == 0) 7 0) (cond ((F.l.length : Int) == 0) 7 0) (by omega)
  rw [show decide (F.l = (if (cond ((F.l.length : Int) == 0) (7 : Int) 0) = 0 then F.l else [])) = true from by
    by_cases hz : F.l = []
    · simp [hz]
    · have : ((F.l.length : Int) == 0) = false := by
        have : F.l.length ≠ 0 := fun e => hz (List.eq_nil_of_length_eq_zero e)
        simp; omega
      simp [this]] at e24
  simp (maxSteps := 1000000) -implicitDefEqProofs only [go_sem, Nat.reduceAdd, Nat.reduceMul, Nat.reduceSub, Nat.reduceDiv, Nat.reduceMod, Nat.reduceLT, Nat.reduceLeDiff, Nat.reduceBEq, Nat.reduceBNe, Nat.reduceEqDiff, Nat.reduceShiftLeft, Nat.reduceShiftRight, Nat.reduceOr, Nat.reduceAnd, Nat.reducePow, Nat.reduceSucc, Int.reduceToNat, Int.reduceAdd, Int.reduceSub, Int.reduceMul, Int.reduceNeg, Int.reduceTMod, Int.reduceTDiv, Int.reduceDiv, Int.reduceMod, Int.reducePow, Int.reduceLT, Int.reduceLE, Int.reduceEq, Int.reduceBEq, Int.reduceBNe, Int.reduceNe, reduceIte, reduceCtorEq, Int.cast_ofNat_Int, implies_true, forall_const, hl, hm, e66, e67, e68, e73, e30, c69, c70, h1, h2, haw, e47, e47', e74, e24, e71, e72, k1, k2, k3, k4]
end Go.Den.FaT

namespace Go.Den.FaT
open Go Go.Proofs Go.Den
set_option linter.unusedVariables false
set_option linter.unusedSimpArgs false
set_option maxRecDepth 100000
theorem c9 (haw : (lim T).call 16 [] [] 0 [] = some (.bool true, [], 0, [])) (n sx sy x y : Int) (b c : Bool) (l m : List (Int × Int)) :
    (lim T).call 9 [.agg [.int .i64 n, .int .i64 sx, .int .i64 sy], .agg [.int .i64 x, .int .i64 y], .agg [.sl b 2 (l.map fun p => .agg [.int .i64 p.1, .int .i64 p.2]), .sl c 2 (m.map fun p => .agg [.int .i64 p.1, .int .i64 p.2])]] [] 0 [] = some (.bool true, [], 0, []) := by
  cases hl : decide (9 < (l.length : Int))
  · cases hm : decide (9 < (m.length : Int))
    · cases h1 : (fnz [ckF n sx sy, ckP x y] == 0)
      · cases h2 : (ckM l m == 0)
        · exact c9a haw n sx sy x y b c l m hl hm h1 h2
        · exact c9b haw n sx sy x y b c l m hl hm h1 h2
      · cases h2 : (ckM l m == 0)
        · exact c9c haw n sx sy x y b c l m hl hm h1 h2
        · exact c9d haw n sx sy x y b c l m hl hm h1 h2
    · rw [ent9]; simp (maxSteps := 1000000) -implicitDefEqProofs only [go_sem, Nat.reduceAdd, Nat.reduceMul, Nat.reduceSub, Nat.reduceDiv, Nat.reduceMod, Nat.reduceLT, Nat.reduceLeDiff, Nat.reduceBEq, Nat.reduceBNe, Nat.reduceEqDiff, Nat.reduceShiftLeft, Nat.reduceShiftRight, Nat.reduceOr, Nat.reduceAnd, Nat.reducePow, Nat.reduceSucc, Int.reduceToNat, Int.reduceAdd, Int.reduceSub, Int.reduceMul, Int.reduceNeg, Int.reduceTMod, Int.reduceTDiv, Int.reduceDiv, Int.reduceMod, Int.reducePow, Int.reduceLT, Int.reduceLE, Int.reduceEq, Int.reduceBEq, Int.reduceBNe, Int.reduceNe, reduceIte, reduceCtorEq, Int.cast_ofNat_Int, implies_true, forall_const, hl, hm, haw]
  · rw [ent9]; simp (maxSteps := 1000000) -implicitDefEqProofs only [go_sem, Nat.reduceAdd, Nat.reduceMul, Nat.reduceSub, Nat.reduceDiv, Nat.reduceMod, Nat.reduceLT, Nat.reduceLeDiff, Nat.reduceBEq, Nat.reduceBNe, Nat.reduceEqDiff, Nat.reduceShiftLeft, Nat.reduceShiftRight, Nat.reduceOr, Nat.reduceAnd, Nat.reducePow, Nat.reduceSucc, Int.reduceToNat, Int.reduceAdd, Int.reduceSub, Int.reduceMul, Int.reduceNeg, Int.reduceTMod, Int.reduceTDiv, Int.reduceDiv, Int.reduceMod, Int.reducePow, Int.reduceLT, Int.reduceLE, Int.reduceEq, Int.reduceBEq, Int.reduceBNe, Int.reduceNe, reduceIte, reduceCtorEq, Int.cast_ofNat_Int, implies_true, forall_const, hl, haw]
end Go.Den.FaT
