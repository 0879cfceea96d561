import Derived.Test.YtifljcjddphpjaaGreatDoorFaS0
import Derived.Test.YtifljcjddphpjaaGreatDoorZN
set_option linter.all false
namespace Go.Den.FaT
open Go Go.Proofs Go.Den
set_option linter.unusedVariables false
set_option linter.unusedSimpArgs false
set_option maxRecDepth 100000

theorem c115 (b : Bool) (e : Int) : (lim T).call 115 [.bool b, .int .i64 e] [] 0 [] = some (.int .i64 (cond b e 0), [], 0, []) := by
  rw [ent115]
  cases b
  · simp (maxSteps := 1000000) -implicitDefEqProofs only [go_sem, Nat.reduceAdd, Nat.reduceMul, Nat.reduceSub, Nat.reduceDiv, Nat.reduceMod, Nat.reduceLT, Nat.reduceLeDiff, Nat.reduceBEq, Nat.reduceBNe, Nat.reduceEqDiff, Nat.reduceShiftLeft, Nat.reduceShiftRight, Nat.reduceOr, Nat.reduceAnd, Nat.reducePow, Nat.reduceSucc, Int.reduceToNat, Int.reduceAdd, Int.reduceSub, Int.reduceMul, Int.reduceNeg, Int.reduceTMod, Int.reduceTDiv, Int.reduceDiv, Int.reduceMod, Int.reducePow, Int.reduceLT, Int.reduceLE, Int.reduceEq, Int.reduceBEq, Int.reduceBNe, Int.reduceNe, reduceIte, reduceCtorEq, Int.cast_ofNat_Int, implies_true, forall_const]
  · simp (maxSteps := 1000000) -implicitDefEqProofs only [go_sem, Nat.reduceAdd, Nat.reduceMul, Nat.reduceSub, Nat.reduceDiv, Nat.reduceMod, Nat.reduceLT, Nat.reduceLeDiff, Nat.reduceBEq, Nat.reduceBNe, Nat.reduceEqDiff, Nat.reduceShiftLeft, Nat.reduceShiftRight, Nat.reduceOr, Nat.reduceAnd, Nat.reducePow, Nat.reduceSucc, Int.reduceToNat, Int.reduceAdd, Int.reduceSub, Int.reduceMul, Int.reduceNeg, Int.reduceTMod, Int.reduceTDiv, Int.reduceDiv, Int.reduceMod, Int.reducePow, Int.reduceLT, Int.reduceLE, Int.reduceEq, Int.reduceBEq, Int.reduceBNe, Int.reduceNe, reduceIte, reduceCtorEq, Int.cast_ofNat_Int, implies_true, forall_const]
theorem c39 (b : Bool) (e : Int) : (lim T).call 39 [.bool b, .int .i64 e] [] 0 [] = some (.int .i64 (cond b e 0), [], 0, []) := by
  rw [ent39]
  cases b
  · simp (maxSteps := 1000000) -implicitDefEqProofs only [go_sem, Nat.reduceAdd, Nat.reduceMul, Nat.reduceSub, Nat.reduceDiv, Nat.reduceMod, Nat.reduceLT, Nat.reduceLeDiff, Nat.reduceBEq, Nat.reduceBNe, Nat.reduceEqDiff, Nat.reduceShiftLeft, Nat.reduceShiftRight, Nat.reduceOr, Nat.reduceAnd, Nat.reducePow, Nat.reduceSucc, Int.reduceToNat, Int.reduceAdd, Int.reduceSub, Int.reduceMul, Int.reduceNeg, Int.reduceTMod, Int.reduceTDiv, Int.reduceDiv, Int.reduceMod, Int.reducePow, Int.reduceLT, Int.reduceLE, Int.reduceEq, Int.reduceBEq, Int.reduceBNe, Int.reduceNe, reduceIte, reduceCtorEq, Int.cast_ofNat_Int, implies_true, forall_const]
  · simp (maxSteps := 1000000) -implicitDefEqProofs only [go_sem, Nat.reduceAdd, Nat.reduceMul, Nat.reduceSub, Nat.reduceDiv, Nat.reduceMod, Nat.reduceLT, Nat.reduceLeDiff, Nat.reduceBEq, Nat.reduceBNe, Nat.reduceEqDiff, Nat.reduceShiftLeft, Nat.reduceShiftRight, Nat.reduceOr, Nat.reduceAnd, Nat.reducePow, Nat.reduceSucc, Int.reduceToNat, Int.reduceAdd, Int.reduceSub, Int.reduceMul, Int.reduceNeg, Int.reduceTMod, Int.reduceTDiv, Int.reduceDiv, Int.reduceMod, Int.reducePow, Int.reduceLT, Int.reduceLE, Int.reduceEq, Int.reduceBEq, Int.reduceBNe, Int.reduceNe, reduceIte, reduceCtorEq, Int.cast_ofNat_Int, implies_true, forall_const]
theorem c137 (n a b : Int) : (lim T).call 137 [.int .i64 n, .int .i64 a, .int .i64 b] [] 0 [] = some (.int .i64 (rng n a b), [], 0, []) := by
  rw [ent137]
  cases h : decide (n < a)
  · simp (maxSteps := 1000000) -implicitDefEqProofs only [go_sem, Nat.reduceAdd, Nat.reduceMul, Nat.reduceSub, Nat.reduceDiv, Nat.reduceMod, Nat.reduceLT, Nat.reduceLeDiff, Nat.reduceBEq, Nat.reduceBNe, Nat.reduceEqDiff, Nat.reduceShiftLeft, Nat.reduceShiftRight, Nat.reduceOr, Nat.reduceAnd, Nat.reducePow, Nat.reduceSucc, Int.reduceToNat, Int.reduceAdd, Int.reduceSub, Int.reduceMul, Int.reduceNeg, Int.reduceTMod, Int.reduceTDiv, Int.reduceDiv, Int.reduceMod, Int.reducePow, Int.reduceLT, Int.reduceLE, Int.reduceEq, Int.reduceBEq, Int.reduceBNe, Int.reduceNe, reduceIte, reduceCtorEq, Int.cast_ofNat_Int, implies_true, forall_const, h, c115, rng]
  · simp (maxSteps := 1000000) -implicitDefEqProofs only [go_sem, Nat.reduceAdd, Nat.reduceMul, Nat.reduceSub, Nat.reduceDiv, Nat.reduceMod, Nat.reduceLT, Nat.reduceLeDiff, Nat.reduceBEq, Nat.reduceBNe, Nat.reduceEqDiff, Nat.reduceShiftLeft, Nat.reduceShiftRight, Nat.reduceOr, Nat.reduceAnd, Nat.reducePow, Nat.reduceSucc, Int.reduceToNat, Int.reduceAdd, Int.reduceSub, Int.reduceMul, Int.reduceNeg, Int.reduceTMod, Int.reduceTDiv, Int.reduceDiv, Int.reduceMod, Int.reducePow, Int.reduceLT, Int.reduceLE, Int.reduceEq, Int.reduceBEq, Int.reduceBNe, Int.reduceNe, reduceIte, reduceCtorEq, Int.cast_ofNat_Int, implies_true, forall_const, h, c115, rng]
theorem c90 (n a b : Int) : (lim T).call 90 [.int .i64 n, .int .i64 a, .int .i64 b] [] 0 [] = some (.int .i64 (rng n a b), [], 0, []) := by
  rw [ent90]
  cases h : decide (n < a)
  · simp (maxSteps := 1000000) -implicitDefEqProofs only [go_sem, Nat.reduceAdd, Nat.reduceMul, Nat.reduceSub, Nat.reduceDiv, Nat.reduceMod, Nat.reduceLT, Nat.reduceLeDiff, Nat.reduceBEq, Nat.reduceBNe, Nat.reduceEqDiff, Nat.reduceShiftLeft, Nat.reduceShiftRight, Nat.reduceOr, Nat.reduceAnd, Nat.reducePow, Nat.reduceSucc, Int.reduceToNat, Int.reduceAdd, Int.reduceSub, Int.reduceMul, Int.reduceNeg, Int.reduceTMod, Int.reduceTDiv, Int.reduceDiv, Int.reduceMod, Int.reducePow, Int.reduceLT, Int.reduceLE, Int.reduceEq, Int.reduceBEq, Int.reduceBNe, Int.reduceNe, reduceIte, reduceCtorEq, Int.cast_ofNat_Int, implies_true, forall_const, h, c39, rng]
  · simp (maxSteps := 1000000) -implicitDefEqProofs only [go_sem, Nat.reduceAdd, Nat.reduceMul, Nat.reduceSub, Nat.reduceDiv, Nat.reduceMod, Nat.reduceLT, Nat.reduceLeDiff, Nat.reduceBEq, Nat.reduceBNe, Nat.reduceEqDiff, Nat.reduceShiftLeft, Nat.reduceShiftRight, Nat.reduceOr, Nat.reduceAnd, Nat.reducePow, Nat.reduceSucc, Int.reduceToNat, Int.reduceAdd, Int.reduceSub, Int.reduceMul, Int.reduceNeg, Int.reduceTMod, Int.reduceTDiv, Int.reduceDiv, Int.reduceMod, Int.reducePow, Int.reduceLT, Int.reduceLE, Int.reduceEq, Int.reduceBEq, Int.reduceBNe, Int.reduceNe, reduceIte, reduceCtorEq, Int.cast_ofNat_Int, implies_true, forall_const, h, c39, rng]

theorem loop114 (b : Bool) (l : List Int) (hb : l.length < 4611686018427387904) : ∀ i, i ≤ l.length → (lim T).loop false [.code (.loop b114_0), .inBlock 0, .code (.seq r114_7 .ret)] ⟨114, 15, 0, [(5, .sl b 1 (l.map fun n => .int .i64 n)), (6, .int .i64 l.length), (7, .int .i64 i)], [], 0, []⟩ = some (.ret (.int .i64 (fnz (l.drop i))), [], 0, []) := by
  refine down_ind l.length ?_ fun i hi ih => ?_
  · rw [loopEq]
    have h1 := idx_out l.length
    simp (maxSteps := 1000000) -implicitDefEqProofs only [go_sem, Nat.reduceAdd, Nat.reduceMul, Nat.reduceSub, Nat.reduceDiv, Nat.reduceMod, Nat.reduceLT, Nat.reduceLeDiff, Nat.reduceBEq, Nat.reduceBNe, Nat.reduceEqDiff, Nat.reduceShiftLeft, Nat.reduceShiftRight, Nat.reduceOr, Nat.reduceAnd, Nat.reducePow, Nat.reduceSucc, Int.reduceToNat, Int.reduceAdd, Int.reduceSub, Int.reduceMul, Int.reduceNeg, Int.reduceTMod, Int.reduceTDiv, Int.reduceDiv, Int.reduceMod, Int.reducePow, Int.reduceLT, Int.reduceLE, Int.reduceEq, Int.reduceBEq, Int.reduceBNe, Int.reduceNe, reduceIte, reduceCtorEq, Int.cast_ofNat_Int, implies_true, forall_const, h1]
    simp [fnz]
  · obtain ⟨h1, h2, h3, h4, h5⟩ := idx_in hi hb
    rw [loopEq, h5]
    cases h6 : (l[i] != 0)
    · have h7 : l[i] = 0 := by simpa using h6
      simp (maxSteps := 1000000) -implicitDefEqProofs only [go_sem, Nat.reduceAdd, Nat.reduceMul, Nat.reduceSub, Nat.reduceDiv, Nat.reduceMod, Nat.reduceLT, Nat.reduceLeDiff, Nat.reduceBEq, Nat.reduceBNe, Nat.reduceEqDiff, Nat.reduceShiftLeft, Nat.reduceShiftRight, Nat.reduceOr, Nat.reduceAnd, Nat.reducePow, Nat.reduceSucc, Int.reduceToNat, Int.reduceAdd, Int.reduceSub, Int.reduceMul, Int.reduceNeg, Int.reduceTMod, Int.reduceTDiv, Int.reduceDiv, Int.reduceMod, Int.reducePow, Int.reduceLT, Int.reduceLE, Int.reduceEq, Int.reduceBEq, Int.reduceBNe, Int.reduceNe, reduceIte, reduceCtorEq, Int.cast_ofNat_Int, implies_true, forall_const, h1, h2, h3, h4, h6, ih]
      simp [fnz, h7]
    · have h7 : l[i] ≠ 0 := by simpa using h6
      simp (maxSteps := 1000000) -implicitDefEqProofs only [go_sem, Nat.reduceAdd, Nat.reduceMul, Nat.reduceSub, Nat.reduceDiv, Nat.reduceMod, Nat.reduceLT, Nat.reduceLeDiff, Nat.reduceBEq, Nat.reduceBNe, Nat.reduceEqDiff, Nat.reduceShiftLeft, Nat.reduceShiftRight, Nat.reduceOr, Nat.reduceAnd, Nat.reducePow, Nat.reduceSucc, Int.reduceToNat, Int.reduceAdd, Int.reduceSub, Int.reduceMul, Int.reduceNeg, Int.reduceTMod, Int.reduceTDiv, Int.reduceDiv, Int.reduceMod, Int.reducePow, Int.reduceLT, Int.reduceLE, Int.reduceEq, Int.reduceBEq, Int.reduceBNe, Int.reduceNe, reduceIte, reduceCtorEq, Int.cast_ofNat_Int, implies_true, forall_const, h1, h2, h3, h4, h6]
      simp [fnz, h7]
theorem c114 (b : Bool) (l : List Int) (hb : l.length < 4611686018427387904) : (lim T).call 114 [.sl b 1 (l.map fun n => .int .i64 n)] [] 0 [] = some (.int .i64 (fnz l), [], 0, []) := by
  rw [ent114]
  have h := loop114 b l hb 0 (by omega)
  rw [show ((0 : Nat) : Int) = 0 from rfl, List.drop_zero] at h
  simp (maxSteps := 1000000) -implicitDefEqProofs only [go_sem, Nat.reduceAdd, Nat.reduceMul, Nat.reduceSub, Nat.reduceDiv, Nat.reduceMod, Nat.reduceLT, Nat.reduceLeDiff, Nat.reduceBEq, Nat.reduceBNe, Nat.reduceEqDiff, Nat.reduceShiftLeft, Nat.reduceShiftRight, Nat.reduceOr, Nat.reduceAnd, Nat.reducePow, Nat.reduceSucc, Int.reduceToNat, Int.reduceAdd, Int.reduceSub, Int.reduceMul, Int.reduceNeg, Int.reduceTMod, Int.reduceTDiv, Int.reduceDiv, Int.reduceMod, Int.reducePow, Int.reduceLT, Int.reduceLE, Int.reduceEq, Int.reduceBEq, Int.reduceBNe, Int.reduceNe, reduceIte, reduceCtorEq, Int.cast_ofNat_Int, implies_true, forall_const, h]

theorem loop108 (b : Bool) (l : List Int) (hb : l.length < 4611686018427387904) : ∀ i, i ≤ l.length → (lim T).loop false [.code (.loop b108_0), .inBlock 0, .code (.seq r108_6 .ret)] ⟨108, 19, 0, [(0, .sl b 1 (l.map fun n => .int .i64 n)), (3, .int .i64 i)], [], 0, []⟩ = some (.ret (.int .i64 (fnz (l.drop i))), [], 0, []) := by
  refine down_ind l.length ?_ fun i hi ih => ?_
  · rw [loopEq]
    have h1 := idx_out l.length
    simp (maxSteps := 1000000) -implicitDefEqProofs only [go_sem, Nat.reduceAdd, Nat.reduceMul, Nat.reduceSub, Nat.reduceDiv, Nat.reduceMod, Nat.reduceLT, Nat.reduceLeDiff, Nat.reduceBEq, Nat.reduceBNe, Nat.reduceEqDiff, Nat.reduceShiftLeft, Nat.reduceShiftRight, Nat.reduceOr, Nat.reduceAnd, Nat.reducePow, Nat.reduceSucc, Int.reduceToNat, Int.reduceAdd, Int.reduceSub, Int.reduceMul, Int.reduceNeg, Int.reduceTMod, Int.reduceTDiv, Int.reduceDiv, Int.reduceMod, Int.reducePow, Int.reduceLT, Int.reduceLE, Int.reduceEq, Int.reduceBEq, Int.reduceBNe, Int.reduceNe, reduceIte, reduceCtorEq, Int.cast_ofNat_Int, implies_true, forall_const, h1]
    simp [fnz]
  · obtain ⟨h1, h2, h3, h4, h5⟩ := idx_in hi hb
    rw [loopEq, h5]
    cases h6 : (l[i] != 0)
    · have h7 : l[i] = 0 := by simpa using h6
      simp (maxSteps := 1000000) -implicitDefEqProofs only [go_sem, Nat.reduceAdd, Nat.reduceMul, Nat.reduceSub, Nat.reduceDiv, Nat.reduceMod, Nat.reduceLT, Nat.reduceLeDiff, Nat.reduceBEq, Nat.reduceBNe, Nat.reduceEqDiff, Nat.reduceShiftLeft, Nat.reduceShiftRight, Nat.reduceOr, Nat.reduceAnd, Nat.reducePow, Nat.reduceSucc, Int.reduceToNat, Int.reduceAdd, Int.reduceSub, Int.reduceMul, Int.reduceNeg, Int.reduceTMod, Int.reduceTDiv, Int.reduceDiv, Int.reduceMod, Int.reducePow, Int.reduceLT, Int.reduceLE, Int.reduceEq, Int.reduceBEq, Int.reduceBNe, Int.reduceNe, reduceIte, reduceCtorEq, Int.cast_ofNat_Int, implies_true, forall_const, h1, h2, h3, h4, h6, ih]
      simp [fnz, h7]
    · have h7 : l[i] ≠ 0 := by simpa using h6
      simp (maxSteps := 1000000) -implicitDefEqProofs only [go_sem, Nat.reduceAdd, Nat.reduceMul, Nat.reduceSub, Nat.reduceDiv, Nat.reduceMod, Nat.reduceLT, Nat.reduceLeDiff, Nat.reduceBEq, Nat.reduceBNe, Nat.reduceEqDiff, Nat.reduceShiftLeft, Nat.reduceShiftRight, Nat.reduceOr, Nat.reduceAnd, Nat.reducePow, Nat.reduceSucc, Int.reduceToNat, Int.reduceAdd, Int.reduceSub, Int.reduceMul, Int.reduceNeg, Int.reduceTMod, Int.reduceTDiv, Int.reduceDiv, Int.reduceMod, Int.reducePow, Int.reduceLT, Int.reduceLE, Int.reduceEq, Int.reduceBEq, Int.reduceBNe, Int.reduceNe, reduceIte, reduceCtorEq, Int.cast_ofNat_Int, implies_true, forall_const, h1, h2, h3, h4, h6]
      simp [fnz, h7]
theorem c108 (b : Bool) (l : List Int) (hb : l.length < 4611686018427387904) : (lim T).call 108 [.sl b 1 (l.map fun n => .int .i64 n)] [] 0 [] = some (.int .i64 (fnz l), [], 0, []) := by
  rw [ent108]
  have h := loop108 b l hb 0 (by omega)
  rw [show ((0 : Nat) : Int) = 0 from rfl, List.drop_zero] at h
  simp (maxSteps := 1000000) -implicitDefEqProofs only [go_sem, Nat.reduceAdd, Nat.reduceMul, Nat.reduceSub, Nat.reduceDiv, Nat.reduceMod, Nat.reduceLT, Nat.reduceLeDiff, Nat.reduceBEq, Nat.reduceBNe, Nat.reduceEqDiff, Nat.reduceShiftLeft, Nat.reduceShiftRight, Nat.reduceOr, Nat.reduceAnd, Nat.reducePow, Nat.reduceSucc, Int.reduceToNat, Int.reduceAdd, Int.reduceSub, Int.reduceMul, Int.reduceNeg, Int.reduceTMod, Int.reduceTDiv, Int.reduceDiv, Int.reduceMod, Int.reducePow, Int.reduceLT, Int.reduceLE, Int.reduceEq, Int.reduceBEq, Int.reduceBNe, Int.reduceNe, reduceIte, reduceCtorEq, Int.cast_ofNat_Int, implies_true, forall_const, h]
theorem c30 (b : Bool) (l : List Int) (hb : l.length < 4611686018427387904) : (lim T).call 30 [.sl b 1 (l.map fun n => .int .i64 n)] [] 0 [] = some (.int .i64 (fnz l), [], 0, []) := by
  rw [ent30]
  simp (maxSteps := 1000000) -implicitDefEqProofs only [go_sem, Nat.reduceAdd, Nat.reduceMul, Nat.reduceSub, Nat.reduceDiv, Nat.reduceMod, Nat.reduceLT, Nat.reduceLeDiff, Nat.reduceBEq, Nat.reduceBNe, Nat.reduceEqDiff, Nat.reduceShiftLeft, Nat.reduceShiftRight, Nat.reduceOr, Nat.reduceAnd, Nat.reducePow, Nat.reduceSucc, Int.reduceToNat, Int.reduceAdd, Int.reduceSub, Int.reduceMul, Int.reduceNeg, Int.reduceTMod, Int.reduceTDiv, Int.reduceDiv, Int.reduceMod, Int.reducePow, Int.reduceLT, Int.reduceLE, Int.reduceEq, Int.reduceBEq, Int.reduceBNe, Int.reduceNe, reduceIte, reduceCtorEq, Int.cast_ofNat_Int, implies_true, forall_const, c108 b l hb]
theorem c152 (a b c d : Int) : (lim T).call 152 [.agg [.int .i64 a, .int .i64 b], .agg [.int .i64 c, .int .i64 d]] [] 0 [] = some (.agg [.int .i64 (IntKind.i64.wrap (a + c)), .int .i64 (IntKind.i64.wrap (b + d))], [], 0, []) := by
  rw [ent152]
  simp (maxSteps := 1000000) -implicitDefEqProofs only [go_sem, Nat.reduceAdd, Nat.reduceMul, Nat.reduceSub, Nat.reduceDiv, Nat.reduceMod, Nat.reduceLT, Nat.reduceLeDiff, Nat.reduceBEq, Nat.reduceBNe, Nat.reduceEqDiff, Nat.reduceShiftLeft, Nat.reduceShiftRight, Nat.reduceOr, Nat.reduceAnd, Nat.reducePow, Nat.reduceSucc, Int.reduceToNat, Int.reduceAdd, Int.reduceSub, Int.reduceMul, Int.reduceNeg, Int.reduceTMod, Int.reduceTDiv, Int.reduceDiv, Int.reduceMod, Int.reducePow, Int.reduceLT, Int.reduceLE, Int.reduceEq, Int.reduceBEq, Int.reduceBNe, Int.reduceNe, reduceIte, reduceCtorEq, Int.cast_ofNat_Int, implies_true, forall_const]
theorem c327 (a b : Int) : (lim T).call 327 [.agg [.int .i64 a, .int .i64 b]] [] 0 [] = some (.agg [.int .i64 a, .int .i64 b], [], 0, []) := by
  rw [ent327]
  simp (maxSteps := 1000000) -implicitDefEqProofs only [go_sem, Nat.reduceAdd, Nat.reduceMul, Nat.reduceSub, Nat.reduceDiv, Nat.reduceMod, Nat.reduceLT, Nat.reduceLeDiff, Nat.reduceBEq, Nat.reduceBNe, Nat.reduceEqDiff, Nat.reduceShiftLeft, Nat.reduceShiftRight, Nat.reduceOr, Nat.reduceAnd, Nat.reducePow, Nat.reduceSucc, Int.reduceToNat, Int.reduceAdd, Int.reduceSub, Int.reduceMul, Int.reduceNeg, Int.reduceTMod, Int.reduceTDiv, Int.reduceDiv, Int.reduceMod, Int.reducePow, Int.reduceLT, Int.reduceLE, Int.reduceEq, Int.reduceBEq, Int.reduceBNe, Int.reduceNe, reduceIte, reduceCtorEq, Int.cast_ofNat_Int, implies_true, forall_const]
theorem c328 (a b : Int) : (lim T).call 328 [.agg [.int .i64 a, .int .i64 b]] [] 0 [] = some (.agg [.int .i64 (IntKind.i64.wrap (0 - b)), .int .i64 a], [], 0, []) := by
  rw [ent328]
  simp (maxSteps := 1000000) -implicitDefEqProofs only [go_sem, Nat.reduceAdd, Nat.reduceMul, Nat.reduceSub, Nat.reduceDiv, Nat.reduceMod, Nat.reduceLT, Nat.reduceLeDiff, Nat.reduceBEq, Nat.reduceBNe, Nat.reduceEqDiff, Nat.reduceShiftLeft, Nat.reduceShiftRight, Nat.reduceOr, Nat.reduceAnd, Nat.reducePow, Nat.reduceSucc, Int.reduceToNat, Int.reduceAdd, Int.reduceSub, Int.reduceMul, Int.reduceNeg, Int.reduceTMod, Int.reduceTDiv, Int.reduceDiv, Int.reduceMod, Int.reducePow, Int.reduceLT, Int.reduceLE, Int.reduceEq, Int.reduceBEq, Int.reduceBNe, Int.reduceNe, reduceIte, reduceCtorEq, Int.cast_ofNat_Int, implies_true, forall_const]

theorem c329 (a b : Int) : (lim T).call 329 [.agg [.int .i64 a, .int .i64 b]] [] 0 [] = some (.agg [.int .i64 (IntKind.i64.wrap (0 - a)), .int .i64 (IntKind.i64.wrap (0 - b))], [], 0, []) := by
  rw [ent329]
  simp (maxSteps := 1000000) -implicitDefEqProofs only [go_sem, Nat.reduceAdd, Nat.reduceMul, Nat.reduceSub, Nat.reduceDiv, Nat.reduceMod, Nat.reduceLT, Nat.reduceLeDiff, Nat.reduceBEq, Nat.reduceBNe, Nat.reduceEqDiff, Nat.reduceShiftLeft, Nat.reduceShiftRight, Nat.reduceOr, Nat.reduceAnd, Nat.reducePow, Nat.reduceSucc, Int.reduceToNat, Int.reduceAdd, Int.reduceSub, Int.reduceMul, Int.reduceNeg, Int.reduceTMod, Int.reduceTDiv, Int.reduceDiv, Int.reduceMod, Int.reducePow, Int.reduceLT, Int.reduceLE, Int.reduceEq, Int.reduceBEq, Int.reduceBNe, Int.reduceNe, reduceIte, reduceCtorEq, Int.cast_ofNat_Int, implies_true, forall_const]
theorem c330 (a b : Int) : (lim T).call 330 [.agg [.int .i64 a, .int .i64 b]] [] 0 [] = some (.agg [.int .i64 b, .int .i64 (IntKind.i64.wrap (0 - a))], [], 0, []) := by
  rw [ent330]
  simp (maxSteps := 1000000) -implicitDefEqProofs only [go_sem, Nat.reduceAdd, Nat.reduceMul, Nat.reduceSub, Nat.reduceDiv, Nat.reduceMod, Nat.reduceLT, Nat.reduceLeDiff, Nat.reduceBEq, Nat.reduceBNe, Nat.reduceEqDiff, Nat.reduceShiftLeft, Nat.reduceShiftRight, Nat.reduceOr, Nat.reduceAnd, Nat.reducePow, Nat.reduceSucc, Int.reduceToNat, Int.reduceAdd, Int.reduceSub, Int.reduceMul, Int.reduceNeg, Int.reduceTMod, Int.reduceTDiv, Int.reduceDiv, Int.reduceMod, Int.reducePow, Int.reduceLT, Int.reduceLE, Int.reduceEq, Int.reduceBEq, Int.reduceBNe, Int.reduceNe, reduceIte, reduceCtorEq, Int.cast_ofNat_Int, implies_true, forall_const]
theorem c114_2 (b : Bool) (x y : Int) : (lim T).call 114 [.sl b 1 [.int .i64 x, .int .i64 y]] [] 0 [] = some (.int .i64 (fnz [x, y]), [], 0, []) := c114 b [x, y] (by simp)
theorem c114_3 (b : Bool) (x y z : Int) : (lim T).call 114 [.sl b 1 [.int .i64 x, .int .i64 y, .int .i64 z]] [] 0 [] = some (.int .i64 (fnz [x, y, z]), [], 0, []) := c114 b [x, y, z] (by simp)
theorem c108_2 (b : Bool) (x y : Int) : (lim T).call 108 [.sl b 1 [.int .i64 x, .int .i64 y]] [] 0 [] = some (.int .i64 (fnz [x, y]), [], 0, []) := c108 b [x, y] (by simp)
theorem c161 (x y : Int) : (lim T).call 161 [.agg [.int .i64 x, .int .i64 y]] [] 0 [] = some (.int .i64 (ckP x y), [], 0, []) := by
  rw [ent161]
  simp (maxSteps := 1000000) -implicitDefEqProofs only [go_sem, Nat.reduceAdd, Nat.reduceMul, Nat.reduceSub, Nat.reduceDiv, Nat.reduceMod, Nat.reduceLT, Nat.reduceLeDiff, Nat.reduceBEq, Nat.reduceBNe, Nat.reduceEqDiff, Nat.reduceShiftLeft, Nat.reduceShiftRight, Nat.reduceOr, Nat.reduceAnd, Nat.reducePow, Nat.reduceSucc, Int.reduceToNat, Int.reduceAdd, Int.reduceSub, Int.reduceMul, Int.reduceNeg, Int.reduceTMod, Int.reduceTDiv, Int.reduceDiv, Int.reduceMod, Int.reducePow, Int.reduceLT, Int.reduceLE, Int.reduceEq, Int.reduceBEq, Int.reduceBNe, Int.reduceNe, reduceIte, reduceCtorEq, Int.cast_ofNat_Int, implies_true, forall_const, c137, c114_2, ckP]
theorem c70 (x y : Int) : (lim T).call 70 [.agg [.int .i64 x, .int .i64 y]] [] 0 [] = some (.int .i64 (ckP x y), [], 0, []) := by
  rw [ent70]
  simp (maxSteps := 1000000) -implicitDefEqProofs only [go_sem, Nat.reduceAdd, Nat.reduceMul, Nat.reduceSub, Nat.reduceDiv, Nat.reduceMod, Nat.reduceLT, Nat.reduceLeDiff, Nat.reduceBEq, Nat.reduceBNe, Nat.reduceEqDiff, Nat.reduceShiftLeft, Nat.reduceShiftRight, Nat.reduceOr, Nat.reduceAnd, Nat.reducePow, Nat.reduceSucc, Int.reduceToNat, Int.reduceAdd, Int.reduceSub, Int.reduceMul, Int.reduceNeg, Int.reduceTMod, Int.reduceTDiv, Int.reduceDiv, Int.reduceMod, Int.reducePow, Int.reduceLT, Int.reduceLE, Int.reduceEq, Int.reduceBEq, Int.reduceBNe, Int.reduceNe, reduceIte, reduceCtorEq, Int.cast_ofNat_Int, implies_true, forall_const, c90, c108_2, ckP]
theorem c160 (n x y : Int) : (lim T).call 160 [.agg [.int .i64 n, .int .i64 x, .int .i64 y]] [] 0 [] = some (.int .i64 (ckF n x y), [], 0, []) := by
  rw [ent160]
  simp (maxSteps := 1000000) -implicitDefEqProofs only [go_sem, Nat.reduceAdd, Nat.reduceMul, Nat.reduceSub, Nat.reduceDiv, Nat.reduceMod, Nat.reduceLT, Nat.reduceLeDiff, Nat.reduceBEq, Nat.reduceBNe, Nat.reduceEqDiff, Nat.reduceShiftLeft, Nat.reduceShiftRight, Nat.reduceOr, Nat.reduceAnd, Nat.reducePow, Nat.reduceSucc, Int.reduceToNat, Int.reduceAdd, Int.reduceSub, Int.reduceMul, Int.reduceNeg, Int.reduceTMod, Int.reduceTDiv, Int.reduceDiv, Int.reduceMod, Int.reducePow, Int.reduceLT, Int.reduceLE, Int.reduceEq, Int.reduceBEq, Int.reduceBNe, Int.reduceNe, reduceIte, reduceCtorEq, Int.cast_ofNat_Int, implies_true, forall_const, c137, c161, c114_2, ckF]
theorem c69 (n x y : Int) : (lim T).call 69 [.agg [.int .i64 n, .int .i64 x, .int .i64 y]] [] 0 [] = some (.int .i64 (ckF n x y), [], 0, []) := by
  rw [ent69]
  simp (maxSteps := 1000000) -implicitDefEqProofs only [go_sem, Nat.reduceAdd, Nat.reduceMul, Nat.reduceSub, Nat.reduceDiv, Nat.reduceMod, Nat.reduceLT, Nat.reduceLeDiff, Nat.reduceBEq, Nat.reduceBNe, Nat.reduceEqDiff, Nat.reduceShiftLeft, Nat.reduceShiftRight, Nat.reduceOr, Nat.reduceAnd, Nat.reducePow, Nat.reduceSucc, Int.reduceToNat, Int.reduceAdd, Int.reduceSub, Int.reduceMul, Int.reduceNeg, Int.reduceTMod, Int.reduceTDiv, Int.reduceDiv, Int.reduceMod, Int.reducePow, Int.reduceLT, Int.reduceLE, Int.reduceEq, Int.reduceBEq, Int.reduceBNe, Int.reduceNe, reduceIte, reduceCtorEq, Int.cast_ofNat_Int, implies_true, forall_const, c90, c70, c108_2, ckF]

/-- quarter turns -/
def trn (n x y : Int) : Int × Int := if n = 0 then (x, y) else if n = 1 then (IntKind.i64.wrap (0 - y), x) else if n = 2 then (IntKind.i64.wrap (0 - x), IntKind.i64.wrap (0 - y)) else (y, IntKind.i64.wrap (0 - x))
def carr (n sx sy x y : Int) : Int × Int := (IntKind.i64.wrap ((trn n x y).1 + sx), IntKind.i64.wrap ((trn n x y).2 + sy))
theorem c162 (n sx sy x y : Int) (h : 0 ≤ n ∧ n ≤ 3) : (lim T).call 162 [.agg [.int .i64 n, .int .i64 sx, .int .i64 sy], .agg [.int .i64 x, .int .i64 y]] [] 0 [] = some (.agg [.int .i64 (carr n sx sy x y).1, .int .i64 (carr n sx sy x y).2], [], 0, []) := by
  rw [ent162]
  have h : n = 0 ∨ n = 1 ∨ n = 2 ∨ n = 3 := by omega
  rcases h with rfl | rfl | rfl | rfl
  · simp (maxSteps := 1000000) -implicitDefEqProofs only [go_sem, Nat.reduceAdd, Nat.reduceMul, Nat.reduceSub, Nat.reduceDiv, Nat.reduceMod, Nat.reduceLT, Nat.reduceLeDiff, Nat.reduceBEq, Nat.reduceBNe, Nat.reduceEqDiff, Nat.reduceShiftLeft, Nat.reduceShiftRight, Nat.reduceOr, Nat.reduceAnd, Nat.reducePow, Nat.reduceSucc, Int.reduceToNat, Int.reduceAdd, Int.reduceSub, Int.reduceMul, Int.reduceNeg, Int.reduceTMod, Int.reduceTDiv, Int.reduceDiv, Int.reduceMod, Int.reducePow, Int.reduceLT, Int.reduceLE, Int.reduceEq, Int.reduceBEq, Int.reduceBNe, Int.reduceNe, reduceIte, reduceCtorEq, Int.cast_ofNat_Int, implies_true, forall_const, c152, c327]
    simp [carr, trn]
  · simp (maxSteps := 1000000) -implicitDefEqProofs only [go_sem, Nat.reduceAdd, Nat.reduceMul, Nat.reduceSub, Nat.reduceDiv, Nat.reduceMod, Nat.reduceLT, Nat.reduceLeDiff, Nat.reduceBEq, Nat.reduceBNe, Nat.reduceEqDiff, Nat.reduceShiftLeft, Nat.reduceShiftRight, Nat.reduceOr, Nat.reduceAnd, Nat.reducePow, Nat.reduceSucc, Int.reduceToNat, Int.reduceAdd, Int.reduceSub, Int.reduceMul, Int.reduceNeg, Int.reduceTMod, Int.reduceTDiv, Int.reduceDiv, Int.reduceMod, Int.reducePow, Int.reduceLT, Int.reduceLE, Int.reduceEq, Int.reduceBEq, Int.reduceBNe, Int.reduceNe, reduceIte, reduceCtorEq, Int.cast_ofNat_Int, implies_true, forall_const, c152, c328]
    simp [carr, trn]
  · simp (maxSteps := 1000000) -implicitDefEqProofs only [go_sem, Nat.reduceAdd, Nat.reduceMul, Nat.reduceSub, Nat.reduceDiv, Nat.reduceMod, Nat.reduceLT, Nat.reduceLeDiff, Nat.reduceBEq, Nat.reduceBNe, Nat.reduceEqDiff, Nat.reduceShiftLeft, Nat.reduceShiftRight, Nat.reduceOr, Nat.reduceAnd, Nat.reducePow, Nat.reduceSucc, Int.reduceToNat, Int.reduceAdd, Int.reduceSub, Int.reduceMul, Int.reduceNeg, Int.reduceTMod, Int.reduceTDiv, Int.reduceDiv, Int.reduceMod, Int.reducePow, Int.reduceLT, Int.reduceLE, Int.reduceEq, Int.reduceBEq, Int.reduceBNe, Int.reduceNe, reduceIte, reduceCtorEq, Int.cast_ofNat_Int, implies_true, forall_const, c152, c329]
    simp [carr, trn]
  · simp (maxSteps := 1000000) -implicitDefEqProofs only [go_sem, Nat.reduceAdd, Nat.reduceMul, Nat.reduceSub, Nat.reduceDiv, Nat.reduceMod, Nat.reduceLT, Nat.reduceLeDiff, Nat.reduceBEq, Nat.reduceBNe, Nat.reduceEqDiff, Nat.reduceShiftLeft, Nat.reduceShiftRight, Nat.reduceOr, Nat.reduceAnd, Nat.reducePow, Nat.reduceSucc, Int.reduceToNat, Int.reduceAdd, Int.reduceSub, Int.reduceMul, Int.reduceNeg, Int.reduceTMod, Int.reduceTDiv, Int.reduceDiv, Int.reduceMod, Int.reducePow, Int.reduceLT, Int.reduceLE, Int.reduceEq, Int.reduceBEq, Int.reduceBNe, Int.reduceNe, reduceIte, reduceCtorEq, Int.cast_ofNat_Int, implies_true, forall_const, c152, c330]
    simp [carr, trn]
/-- quarter turns, one after another -/
def rot : Nat → Int × Int → Int × Int
  | 0, p => p
  | n + 1, p => rot n (IntKind.i64.wrap (0 - p.2), p.1)
theorem c164 (n : Int) (x y : Int) (h : 0 ≤ n ∧ n ≤ 4) : (lim T).call 164 [.agg [.int .i64 x, .int .i64 y], .int .i64 n] [] 0 [] = some (.agg [.int .i64 (rot n.toNat (x, y)).1, .int .i64 (rot n.toNat (x, y)).2], [], 0, []) := by
  rw [ent164]
  have h : n = 0 ∨ n = 1 ∨ n = 2 ∨ n = 3 ∨ n = 4 := by omega
  rcases h with rfl | rfl | rfl | rfl | rfl
  · simp (maxSteps := 1000000) -implicitDefEqProofs only [go_sem, Nat.reduceAdd, Nat.reduceMul, Nat.reduceSub, Nat.reduceDiv, Nat.reduceMod, Nat.reduceLT, Nat.reduceLeDiff, Nat.reduceBEq, Nat.reduceBNe, Nat.reduceEqDiff, Nat.reduceShiftLeft, Nat.reduceShiftRight, Nat.reduceOr, Nat.reduceAnd, Nat.reducePow, Nat.reduceSucc, Int.reduceToNat, Int.reduceAdd, Int.reduceSub, Int.reduceMul, Int.reduceNeg, Int.reduceTMod, Int.reduceTDiv, Int.reduceDiv, Int.reduceMod, Int.reducePow, Int.reduceLT, Int.reduceLE, Int.reduceEq, Int.reduceBEq, Int.reduceBNe, Int.reduceNe, reduceIte, reduceCtorEq, Int.cast_ofNat_Int, implies_true, forall_const, wrap64]
    rw [loopEq]
    simp (maxSteps := 1000000) -implicitDefEqProofs only [go_sem, Nat.reduceAdd, Nat.reduceMul, Nat.reduceSub, Nat.reduceDiv, Nat.reduceMod, Nat.reduceLT, Nat.reduceLeDiff, Nat.reduceBEq, Nat.reduceBNe, Nat.reduceEqDiff, Nat.reduceShiftLeft, Nat.reduceShiftRight, Nat.reduceOr, Nat.reduceAnd, Nat.reducePow, Nat.reduceSucc, Int.reduceToNat, Int.reduceAdd, Int.reduceSub, Int.reduceMul, Int.reduceNeg, Int.reduceTMod, Int.reduceTDiv, Int.reduceDiv, Int.reduceMod, Int.reducePow, Int.reduceLT, Int.reduceLE, Int.reduceEq, Int.reduceBEq, Int.reduceBNe, Int.reduceNe, reduceIte, reduceCtorEq, Int.cast_ofNat_Int, implies_true, forall_const, wrap64]
    simp [rot]
  · simp (maxSteps := 1000000) -implicitDefEqProofs only [go_sem, Nat.reduceAdd, Nat.reduceMul, Nat.reduceSub, Nat.reduceDiv, Nat.reduceMod, Nat.reduceLT, Nat.reduceLeDiff, Nat.reduceBEq, Nat.reduceBNe, Nat.reduceEqDiff, Nat.reduceShiftLeft, Nat.reduceShiftRight, Nat.reduceOr, Nat.reduceAnd, Nat.reducePow, Nat.reduceSucc, Int.reduceToNat, Int.reduceAdd, Int.reduceSub, Int.reduceMul, Int.reduceNeg, Int.reduceTMod, Int.reduceTDiv, Int.reduceDiv, Int.reduceMod, Int.reducePow, Int.reduceLT, Int.reduceLE, Int.reduceEq, Int.reduceBEq, Int.reduceBNe, Int.reduceNe, reduceIte, reduceCtorEq, Int.cast_ofNat_Int, implies_true, forall_const, wrap64]
    rw [loopEq]
    simp (maxSteps := 1000000) -implicitDefEqProofs only [go_sem, Nat.reduceAdd, Nat.reduceMul, Nat.reduceSub, Nat.reduceDiv, Nat.reduceMod, Nat.reduceLT, Nat.reduceLeDiff, Nat.reduceBEq, Nat.reduceBNe, Nat.reduceEqDiff, Nat.reduceShiftLeft, Nat.reduceShiftRight, Nat.reduceOr, Nat.reduceAnd, Nat.reducePow, Nat.reduceSucc, Int.reduceToNat, Int.reduceAdd, Int.reduceSub, Int.reduceMul, Int.reduceNeg, Int.reduceTMod, Int.reduceTDiv, Int.reduceDiv, Int.reduceMod, Int.reducePow, Int.reduceLT, Int.reduceLE, Int.reduceEq, Int.reduceBEq, Int.reduceBNe, Int.reduceNe, reduceIte, reduceCtorEq, Int.cast_ofNat_Int, implies_true, forall_const, wrap64]
    rw [loopEq]
    simp (maxSteps := 1000000) -implicitDefEqProofs only [go_sem, Nat.reduceAdd, Nat.reduceMul, Nat.reduceSub, Nat.reduceDiv, Nat.reduceMod, Nat.reduceLT, Nat.reduceLeDiff, Nat.reduceBEq, Nat.reduceBNe, Nat.reduceEqDiff, Nat.reduceShiftLeft, Nat.reduceShiftRight, Nat.reduceOr, Nat.reduceAnd, Nat.reducePow, Nat.reduceSucc, Int.reduceToNat, Int.reduceAdd, Int.reduceSub, Int.reduceMul, Int.reduceNeg, Int.reduceTMod, Int.reduceTDiv, Int.reduceDiv, Int.reduceMod, Int.reducePow, Int.reduceLT, Int.reduceLE, Int.reduceEq, Int.reduceBEq, Int.reduceBNe, Int.reduceNe, reduceIte, reduceCtorEq, Int.cast_ofNat_Int, implies_true, forall_const, wrap64]
    simp [rot]
  · simp (maxSteps := 1000000) -implicitDefEqProofs only [go_sem, Nat.reduceAdd, Nat.reduceMul, Nat.reduceSub, Nat.reduceDiv, Nat.reduceMod, Nat.reduceLT, Nat.reduceLeDiff, Nat.reduceBEq, Nat.reduceBNe, Nat.reduceEqDiff, Nat.reduceShiftLeft, Nat.reduceShiftRight, Nat.reduceOr, Nat.reduceAnd, Nat.reducePow, Nat.reduceSucc, Int.reduceToNat, Int.reduceAdd, Int.reduceSub, Int.reduceMul, Int.reduceNeg, Int.reduceTMod, Int.reduceTDiv, Int.reduceDiv, Int.reduceMod, Int.reducePow, Int.reduceLT, Int.reduceLE, Int.reduceEq, Int.reduceBEq, Int.reduceBNe, Int.reduceNe, reduceIte, reduceCtorEq, Int.cast_ofNat_Int, implies_true, forall_const, wrap64]
    rw [loopEq]
    simp (maxSteps := 1000000) -implicitDefEqProofs only [go_sem, Nat.reduceAdd, Nat.reduceMul, Nat.reduceSub, Nat.reduceDiv, Nat.reduceMod, Nat.reduceLT, Nat.reduceLeDiff, Nat.reduceBEq, Nat.reduceBNe, Nat.reduceEqDiff, Nat.reduceShiftLeft, Nat.reduceShiftRight, Nat.reduceOr, Nat.reduceAnd, Nat.reducePow, Nat.reduceSucc, Int.reduceToNat, Int.reduceAdd, Int.reduceSub, Int.reduceMul, Int.reduceNeg, Int.reduceTMod, Int.reduceTDiv, Int.reduceDiv, Int.reduceMod, Int.reducePow, Int.reduceLT, Int.reduceLE, Int.reduceEq, Int.reduceBEq, Int.reduceBNe, Int.reduceNe, reduceIte, reduceCtorEq, Int.cast_ofNat_Int, implies_true, forall_const, wrap64]
    rw [loopEq]
    simp (maxSteps := 1000000) -implicitDefEqProofs only [go_sem, Nat.reduceAdd, Nat.reduceMul, Nat.reduceSub, Nat.reduceDiv, Nat.reduceMod, Nat.reduceLT, Nat.reduceLeDiff, Nat.reduceBEq, Nat.reduceBNe, Nat.reduceEqDiff, Nat.reduceShiftLeft, Nat.reduceShiftRight, Nat.reduceOr, Nat.reduceAnd, Nat.reducePow, Nat.reduceSucc, Int.reduceToNat, Int.reduceAdd, Int.reduceSub, Int.reduceMul, Int.reduceNeg, Int.reduceTMod, Int.reduceTDiv, Int.reduceDiv, Int.reduceMod, Int.reducePow, Int.reduceLT, Int.reduceLE, Int.reduceEq, Int.reduceBEq, Int.reduceBNe, Int.reduceNe, reduceIte, reduceCtorEq, Int.cast_ofNat_Int, implies_true, forall_const, wrap64]
    rw [loopEq]
    simp (maxSteps := 1000000) -implicitDefEqProofs only [go_sem, Nat.reduceAdd, Nat.reduceMul, Nat.reduceSub, Nat.reduceDiv, Nat.reduceMod, Nat.reduceLT, Nat.reduceLeDiff, Nat.reduceBEq, Nat.reduceBNe, Nat.reduceEqDiff, Nat.reduceShiftLeft, Nat.reduceShiftRight, Nat.reduceOr, Nat.reduceAnd, Nat.reducePow, Nat.reduceSucc, Int.reduceToNat, Int.reduceAdd, Int.reduceSub, Int.reduceMul, Int.reduceNeg, Int.reduceTMod, Int.reduceTDiv, Int.reduceDiv, Int.reduceMod, Int.reducePow, Int.reduceLT, Int.reduceLE, Int.reduceEq, Int.reduceBEq, Int.reduceBNe, Int.reduceNe, reduceIte, reduceCtorEq, Int.cast_ofNat_Int, implies_true, forall_const, wrap64]
    simp [rot]
  · simp (maxSteps := 1000000) -implicitDefEqProofs only [go_sem, Nat.reduceAdd, Nat.reduceMul, Nat.reduceSub, Nat.reduceDiv, Nat.reduceMod, Nat.reduceLT, Nat.reduceLeDiff, Nat.reduceBEq, Nat.reduceBNe, Nat.reduceEqDiff, Nat.reduceShiftLeft, Nat.reduceShiftRight, Nat.reduceOr, Nat.reduceAnd, Nat.reducePow, Nat.reduceSucc, Int.reduceToNat, Int.reduceAdd, Int.reduceSub, Int.reduceMul, Int.reduceNeg, Int.reduceTMod, Int.reduceTDiv, Int.reduceDiv, Int.reduceMod, Int.reducePow, Int.reduceLT, Int.reduceLE, Int.reduceEq, Int.reduceBEq, Int.reduceBNe, Int.reduceNe, reduceIte, reduceCtorEq, Int.cast_ofNat_Int, implies_true, forall_const, wrap64]
    rw [loopEq]
    simp (maxSteps := 1000000) -implicitDefEqProofs only [go_sem, Nat.reduceAdd, Nat.reduceMul, Nat.reduceSub, Nat.reduceDiv, Nat.reduceMod, Nat.reduceLT, Nat.reduceLeDiff, Nat.reduceBEq, Nat.reduceBNe, Nat.reduceEqDiff, Nat.reduceShiftLeft, Nat.reduceShiftRight, Nat.reduceOr, Nat.reduceAnd, Nat.reducePow, Nat.reduceSucc, Int.reduceToNat, Int.reduceAdd, Int.reduceSub, Int.reduceMul, Int.reduceNeg, Int.reduceTMod, Int.reduceTDiv, Int.reduceDiv, Int.reduceMod, Int.reducePow, Int.reduceLT, Int.reduceLE, Int.reduceEq, Int.reduceBEq, Int.reduceBNe, Int.reduceNe, reduceIte, reduceCtorEq, Int.cast_ofNat_Int, implies_true, forall_const, wrap64]
    rw [loopEq]
    simp (maxSteps := 1000000) -implicitDefEqProofs only [go_sem, Nat.reduceAdd, Nat.reduceMul, Nat.reduceSub, Nat.reduceDiv, Nat.reduceMod, Nat.reduceLT, Nat.reduceLeDiff, Nat.reduceBEq, Nat.reduceBNe, Nat.reduceEqDiff, Nat.reduceShiftLeft, Nat.reduceShiftRight, Nat.reduceOr, Nat.reduceAnd, Nat.reducePow, Nat.reduceSucc, Int.reduceToNat, Int.reduceAdd, Int.reduceSub, Int.reduceMul, Int.reduceNeg, Int.reduceTMod, Int.reduceTDiv, Int.reduceDiv, Int.reduceMod, Int.reducePow, Int.reduceLT, Int.reduceLE, Int.reduceEq, Int.reduceBEq, Int.reduceBNe, Int.reduceNe, reduceIte, reduceCtorEq, Int.cast_ofNat_Int, implies_true, forall_const, wrap64]
    rw [loopEq]
    simp (maxSteps := 1000000) -implicitDefEqProofs only [go_sem, Nat.reduceAdd, Nat.reduceMul, Nat.reduceSub, Nat.reduceDiv, Nat.reduceMod, Nat.reduceLT, Nat.reduceLeDiff, Nat.reduceBEq, Nat.reduceBNe, Nat.reduceEqDiff, Nat.reduceShiftLeft, Nat.reduceShiftRight, Nat.reduceOr, Nat.reduceAnd, Nat.reducePow, Nat.reduceSucc, Int.reduceToNat, Int.reduceAdd, Int.reduceSub, Int.reduceMul, Int.reduceNeg, Int.reduceTMod, Int.reduceTDiv, Int.reduceDiv, Int.reduceMod, Int.reducePow, Int.reduceLT, Int.reduceLE, Int.reduceEq, Int.reduceBEq, Int.reduceBNe, Int.reduceNe, reduceIte, reduceCtorEq, Int.cast_ofNat_Int, implies_true, forall_const, wrap64]
    rw [loopEq]
    simp (maxSteps := 1000000) -implicitDefEqProofs only [go_sem, Nat.reduceAdd, Nat.reduceMul, Nat.reduceSub, Nat.reduceDiv, Nat.reduceMod, Nat.reduceLT, Nat.reduceLeDiff, Nat.reduceBEq, Nat.reduceBNe, Nat.reduceEqDiff, Nat.reduceShiftLeft, Nat.reduceShiftRight, Nat.reduceOr, Nat.reduceAnd, Nat.reducePow, Nat.reduceSucc, Int.reduceToNat, Int.reduceAdd, Int.reduceSub, Int.reduceMul, Int.reduceNeg, Int.reduceTMod, Int.reduceTDiv, Int.reduceDiv, Int.reduceMod, Int.reducePow, Int.reduceLT, Int.reduceLE, Int.reduceEq, Int.reduceBEq, Int.reduceBNe, Int.reduceNe, reduceIte, reduceCtorEq, Int.cast_ofNat_Int, implies_true, forall_const, wrap64]
    simp [rot]
  · simp (maxSteps := 1000000) -implicitDefEqProofs only [go_sem, Nat.reduceAdd, Nat.reduceMul, Nat.reduceSub, Nat.reduceDiv, Nat.reduceMod, Nat.reduceLT, Nat.reduceLeDiff, Nat.reduceBEq, Nat.reduceBNe, Nat.reduceEqDiff, Nat.reduceShiftLeft, Nat.reduceShiftRight, Nat.reduceOr, Nat.reduceAnd, Nat.reducePow, Nat.reduceSucc, Int.reduceToNat, Int.reduceAdd, Int.reduceSub, Int.reduceMul, Int.reduceNeg, Int.reduceTMod, Int.reduceTDiv, Int.reduceDiv, Int.reduceMod, Int.reducePow, Int.reduceLT, Int.reduceLE, Int.reduceEq, Int.reduceBEq, Int.reduceBNe, Int.reduceNe, reduceIte, reduceCtorEq, Int.cast_ofNat_Int, implies_true, forall_const, wrap64]
    rw [loopEq]
    simp (maxSteps := 1000000) -implicitDefEqProofs only [go_sem, Nat.reduceAdd, Nat.reduceMul, Nat.reduceSub, Nat.reduceDiv, Nat.reduceMod, Nat.reduceLT, Nat.reduceLeDiff, Nat.reduceBEq, Nat.reduceBNe, Nat.reduceEqDiff, Nat.reduceShiftLeft, Nat.reduceShiftRight, Nat.reduceOr, Nat.reduceAnd, Nat.reducePow, Nat.reduceSucc, Int.reduceToNat, Int.reduceAdd, Int.reduceSub, Int.reduceMul, Int.reduceNeg, Int.reduceTMod, Int.reduceTDiv, Int.reduceDiv, Int.reduceMod, Int.reducePow, Int.reduceLT, Int.reduceLE, Int.reduceEq, Int.reduceBEq, Int.reduceBNe, Int.reduceNe, reduceIte, reduceCtorEq, Int.cast_ofNat_Int, implies_true, forall_const, wrap64]
    rw [loopEq]
    simp (maxSteps := 1000000) -implicitDefEqProofs only [go_sem, Nat.reduceAdd, Nat.reduceMul, Nat.reduceSub, Nat.reduceDiv, Nat.reduceMod, Nat.reduceLT, Nat.reduceLeDiff, Nat.reduceBEq, Nat.reduceBNe, Nat.reduceEqDiff, Nat.reduceShiftLeft, Nat.reduceShiftRight, Nat.reduceOr, Nat.reduceAnd, Nat.reducePow, Nat.reduceSucc, Int.reduceToNat, Int.reduceAdd, Int.reduceSub, Int.reduceMul, Int.reduceNeg, Int.reduceTMod, Int.reduceTDiv, Int.reduceDiv, Int.reduceMod, Int.reducePow, Int.reduceLT, Int.reduceLE, Int.reduceEq, Int.reduceBEq, Int.reduceBNe, Int.reduceNe, reduceIte, reduceCtorEq, Int.cast_ofNat_Int, implies_true, forall_const, wrap64]
    rw [loopEq]
    simp (maxSteps := 1000000) -implicitDefEqProofs only [go_sem, Nat.reduceAdd, Nat.reduceMul, Nat.reduceSub, Nat.reduceDiv, Nat.reduceMod, Nat.reduceLT, Nat.reduceLeDiff, Nat.reduceBEq, Nat.reduceBNe, Nat.reduceEqDiff, Nat.reduceShiftLeft, Nat.reduceShiftRight, Nat.reduceOr, Nat.reduceAnd, Nat.reducePow, Nat.reduceSucc, Int.reduceToNat, Int.reduceAdd, Int.reduceSub, Int.reduceMul, Int.reduceNeg, Int.reduceTMod, Int.reduceTDiv, Int.reduceDiv, Int.reduceMod, Int.reducePow, Int.reduceLT, Int.reduceLE, Int.reduceEq, Int.reduceBEq, Int.reduceBNe, Int.reduceNe, reduceIte, reduceCtorEq, Int.cast_ofNat_Int, implies_true, forall_const, wrap64]
    rw [loopEq]
    simp (maxSteps := 1000000) -implicitDefEqProofs only [go_sem, Nat.reduceAdd, Nat.reduceMul, Nat.reduceSub, Nat.reduceDiv, Nat.reduceMod, Nat.reduceLT, Nat.reduceLeDiff, Nat.reduceBEq, Nat.reduceBNe, Nat.reduceEqDiff, Nat.reduceShiftLeft, Nat.reduceShiftRight, Nat.reduceOr, Nat.reduceAnd, Nat.reducePow, Nat.reduceSucc, Int.reduceToNat, Int.reduceAdd, Int.reduceSub, Int.reduceMul, Int.reduceNeg, Int.reduceTMod, Int.reduceTDiv, Int.reduceDiv, Int.reduceMod, Int.reducePow, Int.reduceLT, Int.reduceLE, Int.reduceEq, Int.reduceBEq, Int.reduceBNe, Int.reduceNe, reduceIte, reduceCtorEq, Int.cast_ofNat_Int, implies_true, forall_const, wrap64]
    rw [loopEq]
    simp (maxSteps := 1000000) -implicitDefEqProofs only [go_sem, Nat.reduceAdd, Nat.reduceMul, Nat.reduceSub, Nat.reduceDiv, Nat.reduceMod, Nat.reduceLT, Nat.reduceLeDiff, Nat.reduceBEq, Nat.reduceBNe, Nat.reduceEqDiff, Nat.reduceShiftLeft, Nat.reduceShiftRight, Nat.reduceOr, Nat.reduceAnd, Nat.reducePow, Nat.reduceSucc, Int.reduceToNat, Int.reduceAdd, Int.reduceSub, Int.reduceMul, Int.reduceNeg, Int.reduceTMod, Int.reduceTDiv, Int.reduceDiv, Int.reduceMod, Int.reducePow, Int.reduceLT, Int.reduceLE, Int.reduceEq, Int.reduceBEq, Int.reduceBNe, Int.reduceNe, reduceIte, reduceCtorEq, Int.cast_ofNat_Int, implies_true, forall_const, wrap64]
    simp [rot]
end Go.Den.FaT

namespace Go.Den.FaT
open Go Go.Proofs Go.Den
set_option linter.unusedVariables false
set_option linter.unusedSimpArgs false
set_option maxRecDepth 100000

theorem c71 (n sx sy x y : Int) (h : 0 ≤ n ∧ n ≤ 3) : (lim T).call 71 [.agg [.int .i64 n, .int .i64 sx, .int .i64 sy], .agg [.int .i64 x, .int .i64 y]] [] 0 [] =
    some (.agg [.int .i64 (IntKind.i64.wrap ((rot n.toNat (x, y)).1 + sx)), .int .i64 (IntKind.i64.wrap ((rot n.toNat (x, y)).2 + sy))], [], 0, []) := by
  rw [ent71]
  simp (maxSteps := 1000000) -implicitDefEqProofs only [go_sem, Nat.reduceAdd, Nat.reduceMul, Nat.reduceSub, Nat.reduceDiv, Nat.reduceMod, Nat.reduceLT, Nat.reduceLeDiff, Nat.reduceBEq, Nat.reduceBNe, Nat.reduceEqDiff, Nat.reduceShiftLeft, Nat.reduceShiftRight, Nat.reduceOr, Nat.reduceAnd, Nat.reducePow, Nat.reduceSucc, Int.reduceToNat, Int.reduceAdd, Int.reduceSub, Int.reduceMul, Int.reduceNeg, Int.reduceTMod, Int.reduceTDiv, Int.reduceDiv, Int.reduceMod, Int.reducePow, Int.reduceLT, Int.reduceLE, Int.reduceEq, Int.reduceBEq, Int.reduceBNe, Int.reduceNe, reduceIte, reduceCtorEq, Int.cast_ofNat_Int, implies_true, forall_const, c164 n x y (by omega)]
end Go.Den.FaT

namespace Go.Den.FaT
open Go Go.Proofs Go.Den
set_option linter.unusedVariables false
set_option linter.unusedSimpArgs false
set_option maxRecDepth 100000

theorem loop89 (b c : Bool) (l m : List Int) (hb : l.length < 4611686018427387904) (hm : l.length = m.length) : ∀ i, i ≤ l.length → (lim T).loop false [.code (.loop b89_0), .inBlock 0, .code (.seq r89_8 .ret)] ⟨89, 26, 0, [(0, .sl b 1 (l.map fun n => .int .i64 n)), (1, .sl c 1 (m.map fun n => .int .i64 n)), (5, .int .i64 i)], [], 0, []⟩ = some (.ret (.bool (decide (l.drop i = m.drop i))), [], 0, []) := by
  refine down_ind l.length ?_ fun i hi ih => ?_
  · rw [loopEq]
    have h1 := idx_out l.length
    simp (maxSteps := 1000000) -implicitDefEqProofs only [go_sem, Nat.reduceAdd, Nat.reduceMul, Nat.reduceSub, Nat.reduceDiv, Nat.reduceMod, Nat.reduceLT, Nat.reduceLeDiff, Nat.reduceBEq, Nat.reduceBNe, Nat.reduceEqDiff, Nat.reduceShiftLeft, Nat.reduceShiftRight, Nat.reduceOr, Nat.reduceAnd, Nat.reducePow, Nat.reduceSucc, Int.reduceToNat, Int.reduceAdd, Int.reduceSub, Int.reduceMul, Int.reduceNeg, Int.reduceTMod, Int.reduceTDiv, Int.reduceDiv, Int.reduceMod, Int.reducePow, Int.reduceLT, Int.reduceLE, Int.reduceEq, Int.reduceBEq, Int.reduceBNe, Int.reduceNe, reduceIte, reduceCtorEq, Int.cast_ofNat_Int, implies_true, forall_const, h1]
    simp [hm]
  · obtain ⟨h1, h2, h3, h4, h5⟩ := idx_in hi hb
    obtain ⟨g1, g2, g3, g4, g5⟩ := idx_in (l := m) (i := i) (by omega) (by omega)
    rw [loopEq]
    cases h6 : (l[i] != m[i])
    · have h7 : l[i] = m[i] := by simpa using h6
      simp (maxSteps := 1000000) -implicitDefEqProofs only [go_sem, Nat.reduceAdd, Nat.reduceMul, Nat.reduceSub, Nat.reduceDiv, Nat.reduceMod, Nat.reduceLT, Nat.reduceLeDiff, Nat.reduceBEq, Nat.reduceBNe, Nat.reduceEqDiff, Nat.reduceShiftLeft, Nat.reduceShiftRight, Nat.reduceOr, Nat.reduceAnd, Nat.reducePow, Nat.reduceSucc, Int.reduceToNat, Int.reduceAdd, Int.reduceSub, Int.reduceMul, Int.reduceNeg, Int.reduceTMod, Int.reduceTDiv, Int.reduceDiv, Int.reduceMod, Int.reducePow, Int.reduceLT, Int.reduceLE, Int.reduceEq, Int.reduceBEq, Int.reduceBNe, Int.reduceNe, reduceIte, reduceCtorEq, Int.cast_ofNat_Int, implies_true, forall_const, h1, h2, h3, h4, h6, g1, g2, g3, g4, ih]
      simp only [h5, g5, List.cons.injEq, h7, true_and, false_and, decide_false]
    · have h7 : ¬ l[i] = m[i] := by simpa using h6
      simp (maxSteps := 1000000) -implicitDefEqProofs only [go_sem, Nat.reduceAdd, Nat.reduceMul, Nat.reduceSub, Nat.reduceDiv, Nat.reduceMod, Nat.reduceLT, Nat.reduceLeDiff, Nat.reduceBEq, Nat.reduceBNe, Nat.reduceEqDiff, Nat.reduceShiftLeft, Nat.reduceShiftRight, Nat.reduceOr, Nat.reduceAnd, Nat.reducePow, Nat.reduceSucc, Int.reduceToNat, Int.reduceAdd, Int.reduceSub, Int.reduceMul, Int.reduceNeg, Int.reduceTMod, Int.reduceTDiv, Int.reduceDiv, Int.reduceMod, Int.reducePow, Int.reduceLT, Int.reduceLE, Int.reduceEq, Int.reduceBEq, Int.reduceBNe, Int.reduceNe, reduceIte, reduceCtorEq, Int.cast_ofNat_Int, implies_true, forall_const, h1, h2, h3, h4, h6, g1, g2, g3, g4]
      simp only [h5, g5, List.cons.injEq, h7, true_and, false_and, decide_false]
theorem c89 (b c : Bool) (l m : List Int) (hb : l.length < 4611686018427387904) : (lim T).call 89 [.sl b 1 (l.map fun n => .int .i64 n), .sl c 1 (m.map fun n => .int .i64 n)] [] 0 [] = some (.bool (decide (l = m)), [], 0, []) := by
  rw [ent89]
  cases h : ((l.length : Int) != m.length)
  · have h1 : l.length = m.length := by simp at h; omega
    have h2 := loop89 b c l m hb h1 0 (by omega)
    rw [show ((0 : Nat) : Int) = 0 from rfl, List.drop_zero, List.drop_zero] at h2
    simp (maxSteps := 1000000) -implicitDefEqProofs only [go_sem, Nat.reduceAdd, Nat.reduceMul, Nat.reduceSub, Nat.reduceDiv, Nat.reduceMod, Nat.reduceLT, Nat.reduceLeDiff, Nat.reduceBEq, Nat.reduceBNe, Nat.reduceEqDiff, Nat.reduceShiftLeft, Nat.reduceShiftRight, Nat.reduceOr, Nat.reduceAnd, Nat.reducePow, Nat.reduceSucc, Int.reduceToNat, Int.reduceAdd, Int.reduceSub, Int.reduceMul, Int.reduceNeg, Int.reduceTMod, Int.reduceTDiv, Int.reduceDiv, Int.reduceMod, Int.reducePow, Int.reduceLT, Int.reduceLE, Int.reduceEq, Int.reduceBEq, Int.reduceBNe, Int.reduceNe, reduceIte, reduceCtorEq, Int.cast_ofNat_Int, implies_true, forall_const, h, h2]
  · have h1 : ¬ l.length = m.length := by simp at h; omega
    simp (maxSteps := 1000000) -implicitDefEqProofs only [go_sem, Nat.reduceAdd, Nat.reduceMul, Nat.reduceSub, Nat.reduceDiv, Nat.reduceMod, Nat.reduceLT, Nat.reduceLeDiff, Nat.reduceBEq, Nat.reduceBNe, Nat.reduceEqDiff, Nat.reduceShiftLeft, Nat.reduceShiftRight, Nat.reduceOr, Nat.reduceAnd, Nat.reducePow, Nat.reduceSucc, Int.reduceToNat, Int.reduceAdd, Int.reduceSub, Int.reduceMul, Int.reduceNeg, Int.reduceTMod, Int.reduceTDiv, Int.reduceDiv, Int.reduceMod, Int.reducePow, Int.reduceLT, Int.reduceLE, Int.reduceEq, Int.reduceBEq, Int.reduceBNe, Int.reduceNe, reduceIte, reduceCtorEq, Int.cast_ofNat_Int, implies_true, forall_const, h]
    have : ¬ l = m := fun e => h1 (by rw [e])
    simp [this]
theorem c89n (b : Bool) (l : List Int) (hb : l.length < 4611686018427387904) : (lim T).call 89 [.sl b 1 (l.map fun n => .int .i64 n), .sl false 0 []] [] 0 [] = some (.bool (decide (l = [])), [], 0, []) := by
  rw [ent89]
  cases l with
  | nil =>
    simp (maxSteps := 1000000) -implicitDefEqProofs only [go_sem, Nat.reduceAdd, Nat.reduceMul, Nat.reduceSub, Nat.reduceDiv, Nat.reduceMod, Nat.reduceLT, Nat.reduceLeDiff, Nat.reduceBEq, Nat.reduceBNe, Nat.reduceEqDiff, Nat.reduceShiftLeft, Nat.reduceShiftRight, Nat.reduceOr, Nat.reduceAnd, Nat.reducePow, Nat.reduceSucc, Int.reduceToNat, Int.reduceAdd, Int.reduceSub, Int.reduceMul, Int.reduceNeg, Int.reduceTMod, Int.reduceTDiv, Int.reduceDiv, Int.reduceMod, Int.reducePow, Int.reduceLT, Int.reduceLE, Int.reduceEq, Int.reduceBEq, Int.reduceBNe, Int.reduceNe, reduceIte, reduceCtorEq, Int.cast_ofNat_Int, implies_true, forall_const]
    rw [loopEq]
    simp (maxSteps := 1000000) -implicitDefEqProofs only [go_sem, Nat.reduceAdd, Nat.reduceMul, Nat.reduceSub, Nat.reduceDiv, Nat.reduceMod, Nat.reduceLT, Nat.reduceLeDiff, Nat.reduceBEq, Nat.reduceBNe, Nat.reduceEqDiff, Nat.reduceShiftLeft, Nat.reduceShiftRight, Nat.reduceOr, Nat.reduceAnd, Nat.reducePow, Nat.reduceSucc, Int.reduceToNat, Int.reduceAdd, Int.reduceSub, Int.reduceMul, Int.reduceNeg, Int.reduceTMod, Int.reduceTDiv, Int.reduceDiv, Int.reduceMod, Int.reducePow, Int.reduceLT, Int.reduceLE, Int.reduceEq, Int.reduceBEq, Int.reduceBNe, Int.reduceNe, reduceIte, reduceCtorEq, Int.cast_ofNat_Int, implies_true, forall_const]
  | cons x l =>
    have h : (((l.length + 1 : Nat) : Int) != 0) = true := by simp; omega
    simp (maxSteps := 1000000) -implicitDefEqProofs only [go_sem, Nat.reduceAdd, Nat.reduceMul, Nat.reduceSub, Nat.reduceDiv, Nat.reduceMod, Nat.reduceLT, Nat.reduceLeDiff, Nat.reduceBEq, Nat.reduceBNe, Nat.reduceEqDiff, Nat.reduceShiftLeft, Nat.reduceShiftRight, Nat.reduceOr, Nat.reduceAnd, Nat.reducePow, Nat.reduceSucc, Int.reduceToNat, Int.reduceAdd, Int.reduceSub, Int.reduceMul, Int.reduceNeg, Int.reduceTMod, Int.reduceTDiv, Int.reduceDiv, Int.reduceMod, Int.reducePow, Int.reduceLT, Int.reduceLE, Int.reduceEq, Int.reduceBEq, Int.reduceBNe, Int.reduceNe, reduceIte, reduceCtorEq, Int.cast_ofNat_Int, implies_true, forall_const, h]
    try simp
theorem c24 (b c : Bool) (l m : List Int) (e bad : Int) (hb : l.length < 4611686018427387904) : (lim T).call 24 [.sl b 1 (l.map fun n => .int .i64 n), .int .i64 e, .int .i64 bad, .sl c 1 (m.map fun n => .int .i64 n)] [] 0 [] =
    some (.bool (decide (l = (if bad = 0 then m else [])) && (e == bad)), [], 0, []) := by
  rw [ent24]
  cases h : (bad != 0)
  · have h1 : bad = 0 := by simpa using h
    rw [if_pos h1]
    cases h2 : decide (l = m)
    · simp (maxSteps := 1000000) -implicitDefEqProofs only [go_sem, Nat.reduceAdd, Nat.reduceMul, Nat.reduceSub, Nat.reduceDiv, Nat.reduceMod, Nat.reduceLT, Nat.reduceLeDiff, Nat.reduceBEq, Nat.reduceBNe, Nat.reduceEqDiff, Nat.reduceShiftLeft, Nat.reduceShiftRight, Nat.reduceOr, Nat.reduceAnd, Nat.reducePow, Nat.reduceSucc, Int.reduceToNat, Int.reduceAdd, Int.reduceSub, Int.reduceMul, Int.reduceNeg, Int.reduceTMod, Int.reduceTDiv, Int.reduceDiv, Int.reduceMod, Int.reducePow, Int.reduceLT, Int.reduceLE, Int.reduceEq, Int.reduceBEq, Int.reduceBNe, Int.reduceNe, reduceIte, reduceCtorEq, Int.cast_ofNat_Int, implies_true, forall_const, h, c89 b c l m hb, h2]
    · simp (maxSteps := 1000000) -implicitDefEqProofs only [go_sem, Nat.reduceAdd, Nat.reduceMul, Nat.reduceSub, Nat.reduceDiv, Nat.reduceMod, Nat.reduceLT, Nat.reduceLeDiff, Nat.reduceBEq, Nat.reduceBNe, Nat.reduceEqDiff, Nat.reduceShiftLeft, Nat.reduceShiftRight, Nat.reduceOr, Nat.reduceAnd, Nat.reducePow, Nat.reduceSucc, Int.reduceToNat, Int.reduceAdd, Int.reduceSub, Int.reduceMul, Int.reduceNeg, Int.reduceTMod, Int.reduceTDiv, Int.reduceDiv, Int.reduceMod, Int.reducePow, Int.reduceLT, Int.reduceLE, Int.reduceEq, Int.reduceBEq, Int.reduceBNe, Int.reduceNe, reduceIte, reduceCtorEq, Int.cast_ofNat_Int, implies_true, forall_const, h, c89 b c l m hb, h2]
  · have h1 : ¬ bad = 0 := by simpa using h
    rw [if_neg h1]
    have h3 := c89n b l hb
    cases h2 : decide (l = [])
    · simp (maxSteps := 1000000) -implicitDefEqProofs only [go_sem, Nat.reduceAdd, Nat.reduceMul, Nat.reduceSub, Nat.reduceDiv, Nat.reduceMod, Nat.reduceLT, Nat.reduceLeDiff, Nat.reduceBEq, Nat.reduceBNe, Nat.reduceEqDiff, Nat.reduceShiftLeft, Nat.reduceShiftRight, Nat.reduceOr, Nat.reduceAnd, Nat.reducePow, Nat.reduceSucc, Int.reduceToNat, Int.reduceAdd, Int.reduceSub, Int.reduceMul, Int.reduceNeg, Int.reduceTMod, Int.reduceTDiv, Int.reduceDiv, Int.reduceMod, Int.reducePow, Int.reduceLT, Int.reduceLE, Int.reduceEq, Int.reduceBEq, Int.reduceBNe, Int.reduceNe, reduceIte, reduceCtorEq, Int.cast_ofNat_Int, implies_true, forall_const, h, h3, h2]
    · simp (maxSteps := 1000000) -implicitDefEqProofs only [go_sem, Nat.reduceAdd, Nat.reduceMul, Nat.reduceSub, Nat.reduceDiv, Nat.reduceMod, Nat.reduceLT, Nat.reduceLeDiff, Nat.reduceBEq, Nat.reduceBNe, Nat.reduceEqDiff, Nat.reduceShiftLeft, Nat.reduceShiftRight, Nat.reduceOr, Nat.reduceAnd, Nat.reducePow, Nat.reduceSucc, Int.reduceToNat, Int.reduceAdd, Int.reduceSub, Int.reduceMul, Int.reduceNeg, Int.reduceTMod, Int.reduceTDiv, Int.reduceDiv, Int.reduceMod, Int.reducePow, Int.reduceLT, Int.reduceLE, Int.reduceEq, Int.reduceBEq, Int.reduceBNe, Int.reduceNe, reduceIte, reduceCtorEq, Int.cast_ofNat_Int, implies_true, forall_const, h, h3, h2]
end Go.Den.FaT

namespace Go.Den.FaT
open Go Go.Proofs Go.Den
set_option linter.unusedVariables false
set_option linter.unusedSimpArgs false
set_option maxRecDepth 100000

def tr (n x y : Int) : Int × Int := if n = 0 then (x, y) else if n = 1 then (0 - y, x) else if n = 2 then (0 - x, 0 - y) else (y, 0 - x)
def cry (n sx sy x y : Int) : Int × Int := ((tr n x y).1 + sx, (tr n x y).2 + sy)
def bnd (b : Int) (p : Int × Int) : Prop := -b ≤ p.1 ∧ p.1 ≤ b ∧ -b ≤ p.2 ∧ p.2 ≤ b
theorem tr_bnd (n : Int) {b : Int} {p : Int × Int} (h : bnd b p) : bnd b (tr n p.1 p.2) := by
  unfold bnd at *
  unfold tr
  split
  · exact h
  · split
    · dsimp only; omega
    · split <;> (dsimp only; omega)
theorem trn_tr (n : Int) {p : Int × Int} (h : bnd 1000000 p) : trn n p.1 p.2 = tr n p.1 p.2 := by
  unfold bnd at h
  unfold trn tr
  rw [wrap64 (n := 0 - p.1) (by omega) (by omega), wrap64 (n := 0 - p.2) (by omega) (by omega)]
theorem rot_tr (n : Int) (hn : 0 ≤ n ∧ n ≤ 3) {p : Int × Int} (h : bnd 1000000 p) : rot n.toNat p = tr n p.1 p.2 := by
  unfold bnd at h
  have w1 := wrap64 (n := 0 - p.1) (by omega) (by omega)
  have w2 := wrap64 (n := 0 - p.2) (by omega) (by omega)
  have w3 := wrap64 (n := 0 - (0 - p.2)) (by omega) (by omega)
  have h3 : n = 0 ∨ n = 1 ∨ n = 2 ∨ n = 3 := by omega
  rcases h3 with rfl | rfl | rfl | rfl
  · simp [rot, tr]
  · simp only [show (1 : Int).toNat = 1 from rfl, rot, w2]; rfl
  · simp only [show (2 : Int).toNat = 2 from rfl, rot, w2, w1]; rfl
  · simp only [show (3 : Int).toNat = 3 from rfl, rot, w2, w1, w3]
    simp [tr]
theorem c71' (n sx sy x y : Int) (h : 0 ≤ n ∧ n ≤ 3) (hs : bnd 1000000 (sx, sy)) (hp : bnd 1000000 (x, y)) : (lim T).call 71 [.agg [.int .i64 n, .int .i64 sx, .int .i64 sy], .agg [.int .i64 x, .int .i64 y]] [] 0 [] =
    some (.agg [.int .i64 (cry n sx sy x y).1, .int .i64 (cry n sx sy x y).2], [], 0, []) := by
  rw [c71 n sx sy x y h, rot_tr n h hp]
  have := tr_bnd n hp
  unfold bnd at this hs
  dsimp only at this hs ⊢
  rw [wrap64 (by omega) (by omega), wrap64 (by omega) (by omega)]
  rfl
theorem c162' (n sx sy x y : Int) (h : 0 ≤ n ∧ n ≤ 3) (hs : bnd 1000000 (sx, sy)) (hp : bnd 1000000 (x, y)) : (lim T).call 162 [.agg [.int .i64 n, .int .i64 sx, .int .i64 sy], .agg [.int .i64 x, .int .i64 y]] [] 0 [] =
    some (.agg [.int .i64 (cry n sx sy x y).1, .int .i64 (cry n sx sy x y).2], [], 0, []) := by
  rw [c162 n sx sy x y h]
  unfold carr
  rw [trn_tr n hp]
  have := tr_bnd n hp
  unfold bnd at this hs
  dsimp only at this hs ⊢
  rw [wrap64 (by omega) (by omega), wrap64 (by omega) (by omega)]
  rfl
end Go.Den.FaT

namespace Go.Den.FaT
open Go Go.Proofs Go.Den
set_option linter.unusedVariables false
set_option linter.unusedSimpArgs false
set_option maxRecDepth 100000

def spV (s : Int × Int × Int) : V := .agg [.int .i64 s.1, .int .i64 s.2.1, .int .i64 s.2.2]
structure Ser where
  a : Int
  b : Int
  c : Int
  d : Int
  e : Int
  f : Int
  g : Int
  h : Int
  deriving DecidableEq
def serV (s : Ser) : V := .agg [.int .u8 s.a, .int .u8 s.b, .int .u8 s.c, .int .u8 s.d, .int .u8 s.e, .int .u8 s.f, .int .u8 s.g, .int .u8 s.h]
structure Md where
  s : Ser
  x : Int
  y : Int
  deriving DecidableEq
def mdV (m : Md) : V := .agg [.int .u8 m.s.a, .int .u8 m.s.b, .int .u8 m.s.c, .int .u8 m.s.d, .int .u8 m.s.e, .int .u8 m.s.f, .int .u8 m.s.g, .int .u8 m.s.h, .int .i64 m.x, .int .i64 m.y]
attribute [go_sem] spV serV mdV
def ckS (s : Int × Int × Int) : Int := fnz [rng s.1 0 15, rng s.2.1 0 15, rng s.2.2 1 256]
theorem ckS_f (s : Int × Int × Int) : fnz [rng s.1 0 15, rng s.2.1 0 15, rng s.2.2 1 256] = ckS s := rfl
def shrt (n : Nat) : Bool := decide ((n : Int) ≤ 8) || ((n : Int) == 65)

theorem c75 (b : Bool) (l : List (Int × Int × Int)) : (lim T).call 75 [.sl b 3 (l.map spV)] [] 0 [] = some (.bool (shrt l.length), [], 0, []) := by
  rw [ent75]
  cases h : decide ((l.length : Int) ≤ 8)
  · simp (maxSteps := 1000000) -implicitDefEqProofs only [go_sem, Nat.reduceAdd, Nat.reduceMul, Nat.reduceSub, Nat.reduceDiv, Nat.reduceMod, Nat.reduceLT, Nat.reduceLeDiff, Nat.reduceBEq, Nat.reduceBNe, Nat.reduceEqDiff, Nat.reduceShiftLeft, Nat.reduceShiftRight, Nat.reduceOr, Nat.reduceAnd, Nat.reducePow, Nat.reduceSucc, Int.reduceToNat, Int.reduceAdd, Int.reduceSub, Int.reduceMul, Int.reduceNeg, Int.reduceTMod, Int.reduceTDiv, Int.reduceDiv, Int.reduceMod, Int.reducePow, Int.reduceLT, Int.reduceLE, Int.reduceEq, Int.reduceBEq, Int.reduceBNe, Int.reduceNe, reduceIte, reduceCtorEq, Int.cast_ofNat_Int, implies_true, forall_const, h, shrt]
  · simp (maxSteps := 1000000) -implicitDefEqProofs only [go_sem, Nat.reduceAdd, Nat.reduceMul, Nat.reduceSub, Nat.reduceDiv, Nat.reduceMod, Nat.reduceLT, Nat.reduceLeDiff, Nat.reduceBEq, Nat.reduceBNe, Nat.reduceEqDiff, Nat.reduceShiftLeft, Nat.reduceShiftRight, Nat.reduceOr, Nat.reduceAnd, Nat.reducePow, Nat.reduceSucc, Int.reduceToNat, Int.reduceAdd, Int.reduceSub, Int.reduceMul, Int.reduceNeg, Int.reduceTMod, Int.reduceTDiv, Int.reduceDiv, Int.reduceMod, Int.reducePow, Int.reduceLT, Int.reduceLE, Int.reduceEq, Int.reduceBEq, Int.reduceBNe, Int.reduceNe, reduceIte, reduceCtorEq, Int.cast_ofNat_Int, implies_true, forall_const, h, shrt]
theorem c76 (b : Bool) (l : List Md) : (lim T).call 76 [.sl b 10 (l.map mdV)] [] 0 [] = some (.bool (shrt l.length), [], 0, []) := by
  rw [ent76]
  cases h : decide ((l.length : Int) ≤ 8)
  · simp (maxSteps := 1000000) -implicitDefEqProofs only [go_sem, Nat.reduceAdd, Nat.reduceMul, Nat.reduceSub, Nat.reduceDiv, Nat.reduceMod, Nat.reduceLT, Nat.reduceLeDiff, Nat.reduceBEq, Nat.reduceBNe, Nat.reduceEqDiff, Nat.reduceShiftLeft, Nat.reduceShiftRight, Nat.reduceOr, Nat.reduceAnd, Nat.reducePow, Nat.reduceSucc, Int.reduceToNat, Int.reduceAdd, Int.reduceSub, Int.reduceMul, Int.reduceNeg, Int.reduceTMod, Int.reduceTDiv, Int.reduceDiv, Int.reduceMod, Int.reducePow, Int.reduceLT, Int.reduceLE, Int.reduceEq, Int.reduceBEq, Int.reduceBNe, Int.reduceNe, reduceIte, reduceCtorEq, Int.cast_ofNat_Int, implies_true, forall_const, h, shrt]
  · simp (maxSteps := 1000000) -implicitDefEqProofs only [go_sem, Nat.reduceAdd, Nat.reduceMul, Nat.reduceSub, Nat.reduceDiv, Nat.reduceMod, Nat.reduceLT, Nat.reduceLeDiff, Nat.reduceBEq, Nat.reduceBNe, Nat.reduceEqDiff, Nat.reduceShiftLeft, Nat.reduceShiftRight, Nat.reduceOr, Nat.reduceAnd, Nat.reducePow, Nat.reduceSucc, Int.reduceToNat, Int.reduceAdd, Int.reduceSub, Int.reduceMul, Int.reduceNeg, Int.reduceTMod, Int.reduceTDiv, Int.reduceDiv, Int.reduceMod, Int.reducePow, Int.reduceLT, Int.reduceLE, Int.reduceEq, Int.reduceBEq, Int.reduceBNe, Int.reduceNe, reduceIte, reduceCtorEq, Int.cast_ofNat_Int, implies_true, forall_const, h, shrt]
/-- spots -/
theorem loop78 (b : Bool) (l : List (Int × Int × Int)) (hb : l.length < 1000000) : ∀ i, i ≤ l.length → ∀ o : Option (List (Int × Int × Int)), acL o = i →
    (lim T).loop false [.code (.loop b78_0), .inBlock 0, .code (.seq r78_7 .ret)] ⟨78, 18, 0, [(3, acV o 0), (6, .sl b 3 (l.map spV)), (7, .int .i64 l.length), (8, .int .i64 i)], acR spV o 153, 0, []⟩ =
      some (.ret (acO spV 0 3 (acA o (l.drop i))), [], 0, []) := by
  refine down_ind l.length ?_ fun i hi ih o ho => ?_
  · intro o ho
    rw [loopEq]
    have h1 := idx_out l.length
    cases o with
    | none =>
      simp (maxSteps := 1000000) -implicitDefEqProofs only [go_sem, Nat.reduceAdd, Nat.reduceMul, Nat.reduceSub, Nat.reduceDiv, Nat.reduceMod, Nat.reduceLT, Nat.reduceLeDiff, Nat.reduceBEq, Nat.reduceBNe, Nat.reduceEqDiff, Nat.reduceShiftLeft, Nat.reduceShiftRight, Nat.reduceOr, Nat.reduceAnd, Nat.reducePow, Nat.reduceSucc, Int.reduceToNat, Int.reduceAdd, Int.reduceSub, Int.reduceMul, Int.reduceNeg, Int.reduceTMod, Int.reduceTDiv, Int.reduceDiv, Int.reduceMod, Int.reducePow, Int.reduceLT, Int.reduceLE, Int.reduceEq, Int.reduceBEq, Int.reduceBNe, Int.reduceNe, reduceIte, reduceCtorEq, Int.cast_ofNat_Int, implies_true, forall_const, h1]
      simp [acA, acO]
    | some a =>
      simp (maxSteps := 1000000) -implicitDefEqProofs only [go_sem, Nat.reduceAdd, Nat.reduceMul, Nat.reduceSub, Nat.reduceDiv, Nat.reduceMod, Nat.reduceLT, Nat.reduceLeDiff, Nat.reduceBEq, Nat.reduceBNe, Nat.reduceEqDiff, Nat.reduceShiftLeft, Nat.reduceShiftRight, Nat.reduceOr, Nat.reduceAnd, Nat.reducePow, Nat.reduceSucc, Int.reduceToNat, Int.reduceAdd, Int.reduceSub, Int.reduceMul, Int.reduceNeg, Int.reduceTMod, Int.reduceTDiv, Int.reduceDiv, Int.reduceMod, Int.reducePow, Int.reduceLT, Int.reduceLE, Int.reduceEq, Int.reduceBEq, Int.reduceBNe, Int.reduceNe, reduceIte, reduceCtorEq, Int.cast_ofNat_Int, implies_true, forall_const, h1]
      simp [acA, acO]
  · obtain ⟨h1, h2, h3, h4, h5⟩ := idx_in hi (by omega)
    rw [loopEq, h5]
    have ih' := ih (acA o [l[i]]) (by rw [acL_A, ho]; rfl)
    rw [acA_acA] at ih'
    cases o with
    | none =>
      have h8 := row_ok (n := 0) (by omega)
      simp only [acA_n, acV_s, acR_s, List.map_cons, List.map_nil, spV] at ih'
      simp (maxSteps := 1000000) -implicitDefEqProofs only [go_sem, Nat.reduceAdd, Nat.reduceMul, Nat.reduceSub, Nat.reduceDiv, Nat.reduceMod, Nat.reduceLT, Nat.reduceLeDiff, Nat.reduceBEq, Nat.reduceBNe, Nat.reduceEqDiff, Nat.reduceShiftLeft, Nat.reduceShiftRight, Nat.reduceOr, Nat.reduceAnd, Nat.reducePow, Nat.reduceSucc, Int.reduceToNat, Int.reduceAdd, Int.reduceSub, Int.reduceMul, Int.reduceNeg, Int.reduceTMod, Int.reduceTDiv, Int.reduceDiv, Int.reduceMod, Int.reducePow, Int.reduceLT, Int.reduceLE, Int.reduceEq, Int.reduceBEq, Int.reduceBNe, Int.reduceNe, reduceIte, reduceCtorEq, Int.cast_ofNat_Int, implies_true, forall_const, h1, h2, h3, h4, ih', h8.2]
    | some a =>
      have h9 : a.length = i := ho
      have h8 := (row_ok (n := a.length) (by omega)).1
      simp only [acA_s, acV_s, acR_s, List.map_append, List.map_cons, List.map_nil, spV] at ih'
      simp (maxSteps := 1000000) -implicitDefEqProofs only [go_sem, Nat.reduceAdd, Nat.reduceMul, Nat.reduceSub, Nat.reduceDiv, Nat.reduceMod, Nat.reduceLT, Nat.reduceLeDiff, Nat.reduceBEq, Nat.reduceBNe, Nat.reduceEqDiff, Nat.reduceShiftLeft, Nat.reduceShiftRight, Nat.reduceOr, Nat.reduceAnd, Nat.reducePow, Nat.reduceSucc, Int.reduceToNat, Int.reduceAdd, Int.reduceSub, Int.reduceMul, Int.reduceNeg, Int.reduceTMod, Int.reduceTDiv, Int.reduceDiv, Int.reduceMod, Int.reducePow, Int.reduceLT, Int.reduceLE, Int.reduceEq, Int.reduceBEq, Int.reduceBNe, Int.reduceNe, reduceIte, reduceCtorEq, Int.cast_ofNat_Int, implies_true, forall_const, h1, h2, h3, h4, ih', h8]
theorem c78 (b : Bool) (l : List (Int × Int × Int)) (hb : l.length < 1000000) : (lim T).call 78 [.sl b 3 (l.map spV)] [] 0 [] = some (slV 3 (l.map spV), [], 0, []) := by
  rw [ent78]
  have h := loop78 b l hb 0 (by omega) none rfl
  rw [show ((0 : Nat) : Int) = 0 from rfl, List.drop_zero, acO_slV] at h
  simp only [acV_n, acR_n] at h
  simp (maxSteps := 1000000) -implicitDefEqProofs only [go_sem, Nat.reduceAdd, Nat.reduceMul, Nat.reduceSub, Nat.reduceDiv, Nat.reduceMod, Nat.reduceLT, Nat.reduceLeDiff, Nat.reduceBEq, Nat.reduceBNe, Nat.reduceEqDiff, Nat.reduceShiftLeft, Nat.reduceShiftRight, Nat.reduceOr, Nat.reduceAnd, Nat.reducePow, Nat.reduceSucc, Int.reduceToNat, Int.reduceAdd, Int.reduceSub, Int.reduceMul, Int.reduceNeg, Int.reduceTMod, Int.reduceTDiv, Int.reduceDiv, Int.reduceMod, Int.reducePow, Int.reduceLT, Int.reduceLE, Int.reduceEq, Int.reduceBEq, Int.reduceBNe, Int.reduceNe, reduceIte, reduceCtorEq, Int.cast_ofNat_Int, implies_true, forall_const, h]
end Go.Den.FaT

namespace Go.Den.FaT
open Go Go.Proofs Go.Den
set_option linter.unusedVariables false
set_option linter.unusedSimpArgs false
set_option maxRecDepth 100000
theorem loop79 (b : Bool) (l : List (Md)) (hb : l.length < 1000000) : ∀ i, i ≤ l.length → ∀ o : Option (List (Md)), acL o = i →
    (lim T).loop false [.code (.loop b79_0), .inBlock 0, .code (.seq r79_7 .ret)] ⟨79, 22, 0, [(3, acV o 0), (6, .sl b 10 (l.map mdV)), (7, .int .i64 l.length), (8, .int .i64 i)], acR mdV o 178, 0, []⟩ =
      some (.ret (acO mdV 0 10 (acA o (l.drop i))), [], 0, []) := by
  refine down_ind l.length ?_ fun i hi ih o ho => ?_
  · intro o ho
    rw [loopEq]
    have h1 := idx_out l.length
    cases o with
    | none =>
      simp (maxSteps := 1000000) -implicitDefEqProofs only [go_sem, Nat.reduceAdd, Nat.reduceMul, Nat.reduceSub, Nat.reduceDiv, Nat.reduceMod, Nat.reduceLT, Nat.reduceLeDiff, Nat.reduceBEq, Nat.reduceBNe, Nat.reduceEqDiff, Nat.reduceShiftLeft, Nat.reduceShiftRight, Nat.reduceOr, Nat.reduceAnd, Nat.reducePow, Nat.reduceSucc, Int.reduceToNat, Int.reduceAdd, Int.reduceSub, Int.reduceMul, Int.reduceNeg, Int.reduceTMod, Int.reduceTDiv, Int.reduceDiv, Int.reduceMod, Int.reducePow, Int.reduceLT, Int.reduceLE, Int.reduceEq, Int.reduceBEq, Int.reduceBNe, Int.reduceNe, reduceIte, reduceCtorEq, Int.cast_ofNat_Int, implies_true, forall_const, h1]
      simp [acA, acO]
    | some a =>
      simp (maxSteps := 1000000) -implicitDefEqProofs only [go_sem, Nat.reduceAdd, Nat.reduceMul, Nat.reduceSub, Nat.reduceDiv, Nat.reduceMod, Nat.reduceLT, Nat.reduceLeDiff, Nat.reduceBEq, Nat.reduceBNe, Nat.reduceEqDiff, Nat.reduceShiftLeft, Nat.reduceShiftRight, Nat.reduceOr, Nat.reduceAnd, Nat.reducePow, Nat.reduceSucc, Int.reduceToNat, Int.reduceAdd, Int.reduceSub, Int.reduceMul, Int.reduceNeg, Int.reduceTMod, Int.reduceTDiv, Int.reduceDiv, Int.reduceMod, Int.reducePow, Int.reduceLT, Int.reduceLE, Int.reduceEq, Int.reduceBEq, Int.reduceBNe, Int.reduceNe, reduceIte, reduceCtorEq, Int.cast_ofNat_Int, implies_true, forall_const, h1]
      simp [acA, acO]
  · obtain ⟨h1, h2, h3, h4, h5⟩ := idx_in hi (by omega)
    rw [loopEq, h5]
    have ih' := ih (acA o [l[i]]) (by rw [acL_A, ho]; rfl)
    rw [acA_acA] at ih'
    cases o with
    | none =>
      have h8 := row_ok (n := 0) (by omega)
      simp only [acA_n, acV_s, acR_s, List.map_cons, List.map_nil, mdV] at ih'
      simp (maxSteps := 1000000) -implicitDefEqProofs only [go_sem, Nat.reduceAdd, Nat.reduceMul, Nat.reduceSub, Nat.reduceDiv, Nat.reduceMod, Nat.reduceLT, Nat.reduceLeDiff, Nat.reduceBEq, Nat.reduceBNe, Nat.reduceEqDiff, Nat.reduceShiftLeft, Nat.reduceShiftRight, Nat.reduceOr, Nat.reduceAnd, Nat.reducePow, Nat.reduceSucc, Int.reduceToNat, Int.reduceAdd, Int.reduceSub, Int.reduceMul, Int.reduceNeg, Int.reduceTMod, Int.reduceTDiv, Int.reduceDiv, Int.reduceMod, Int.reducePow, Int.reduceLT, Int.reduceLE, Int.reduceEq, Int.reduceBEq, Int.reduceBNe, Int.reduceNe, reduceIte, reduceCtorEq, Int.cast_ofNat_Int, implies_true, forall_const, h1, h2, h3, h4, ih', h8.2]
    | some a =>
      have h9 : a.length = i := ho
      have h8 := (row_ok (n := a.length) (by omega)).1
      simp only [acA_s, acV_s, acR_s, List.map_append, List.map_cons, List.map_nil, mdV] at ih'
      simp (maxSteps := 1000000) -implicitDefEqProofs only [go_sem, Nat.reduceAdd, Nat.reduceMul, Nat.reduceSub, Nat.reduceDiv, Nat.reduceMod, Nat.reduceLT, Nat.reduceLeDiff, Nat.reduceBEq, Nat.reduceBNe, Nat.reduceEqDiff, Nat.reduceShiftLeft, Nat.reduceShiftRight, Nat.reduceOr, Nat.reduceAnd, Nat.reducePow, Nat.reduceSucc, Int.reduceToNat, Int.reduceAdd, Int.reduceSub, Int.reduceMul, Int.reduceNeg, Int.reduceTMod, Int.reduceTDiv, Int.reduceDiv, Int.reduceMod, Int.reducePow, Int.reduceLT, Int.reduceLE, Int.reduceEq, Int.reduceBEq, Int.reduceBNe, Int.reduceNe, reduceIte, reduceCtorEq, Int.cast_ofNat_Int, implies_true, forall_const, h1, h2, h3, h4, ih', h8]
theorem c79 (b : Bool) (l : List (Md)) (hb : l.length < 1000000) : (lim T).call 79 [.sl b 10 (l.map mdV)] [] 0 [] = some (slV 10 ((l).map mdV), [], 0, []) := by
  rw [ent79]
  have h := loop79  b l hb  0 (by omega) none rfl
  rw [show ((0 : Nat) : Int) = 0 from rfl, List.drop_zero, acO_slV] at h
  simp only [acV_n, acR_n] at h
  simp (maxSteps := 1000000) -implicitDefEqProofs only [go_sem, Nat.reduceAdd, Nat.reduceMul, Nat.reduceSub, Nat.reduceDiv, Nat.reduceMod, Nat.reduceLT, Nat.reduceLeDiff, Nat.reduceBEq, Nat.reduceBNe, Nat.reduceEqDiff, Nat.reduceShiftLeft, Nat.reduceShiftRight, Nat.reduceOr, Nat.reduceAnd, Nat.reducePow, Nat.reduceSucc, Int.reduceToNat, Int.reduceAdd, Int.reduceSub, Int.reduceMul, Int.reduceNeg, Int.reduceTMod, Int.reduceTDiv, Int.reduceDiv, Int.reduceMod, Int.reducePow, Int.reduceLT, Int.reduceLE, Int.reduceEq, Int.reduceBEq, Int.reduceBNe, Int.reduceNe, reduceIte, reduceCtorEq, Int.cast_ofNat_Int, implies_true, forall_const, h]
theorem loop85 (b : Bool) (l : List (Ser)) (hb : l.length < 1000000) : ∀ i, i ≤ l.length → ∀ o : Option (List (Ser)), acL o = i →
    (lim T).loop false [.code (.loop b85_0), .inBlock 0, .code (.seq r85_7 .ret)] ⟨85, 18, 0, [(3, acV o 0), (6, .sl b 8 (l.map serV)), (7, .int .i64 l.length), (8, .int .i64 i)], acR serV o 248, 0, []⟩ =
      some (.ret (acO serV 0 8 (acA o (l.drop i))), [], 0, []) := by
  refine down_ind l.length ?_ fun i hi ih o ho => ?_
  · intro o ho
    rw [loopEq]
    have h1 := idx_out l.length
    cases o with
    | none =>
      simp (maxSteps := 1000000) -implicitDefEqProofs only [go_sem, Nat.reduceAdd, Nat.reduceMul, Nat.reduceSub, Nat.reduceDiv, Nat.reduceMod, Nat.reduceLT, Nat.reduceLeDiff, Nat.reduceBEq, Nat.reduceBNe, Nat.reduceEqDiff, Nat.reduceShiftLeft, Nat.reduceShiftRight, Nat.reduceOr, Nat.reduceAnd, Nat.reducePow, Nat.reduceSucc, Int.reduceToNat, Int.reduceAdd, Int.reduceSub, Int.reduceMul, Int.reduceNeg, Int.reduceTMod, Int.reduceTDiv, Int.reduceDiv, Int.reduceMod, Int.reducePow, Int.reduceLT, Int.reduceLE, Int.reduceEq, Int.reduceBEq, Int.reduceBNe, Int.reduceNe, reduceIte, reduceCtorEq, Int.cast_ofNat_Int, implies_true, forall_const, h1]
      simp [acA, acO]
    | some a =>
      simp (maxSteps := 1000000) -implicitDefEqProofs only [go_sem, Nat.reduceAdd, Nat.reduceMul, Nat.reduceSub, Nat.reduceDiv, Nat.reduceMod, Nat.reduceLT, Nat.reduceLeDiff, Nat.reduceBEq, Nat.reduceBNe, Nat.reduceEqDiff, Nat.reduceShiftLeft, Nat.reduceShiftRight, Nat.reduceOr, Nat.reduceAnd, Nat.reducePow, Nat.reduceSucc, Int.reduceToNat, Int.reduceAdd, Int.reduceSub, Int.reduceMul, Int.reduceNeg, Int.reduceTMod, Int.reduceTDiv, Int.reduceDiv, Int.reduceMod, Int.reducePow, Int.reduceLT, Int.reduceLE, Int.reduceEq, Int.reduceBEq, Int.reduceBNe, Int.reduceNe, reduceIte, reduceCtorEq, Int.cast_ofNat_Int, implies_true, forall_const, h1]
      simp [acA, acO]
  · obtain ⟨h1, h2, h3, h4, h5⟩ := idx_in hi (by omega)
    rw [loopEq, h5]
    have ih' := ih (acA o [l[i]]) (by rw [acL_A, ho]; rfl)
    rw [acA_acA] at ih'
    cases o with
    | none =>
      have h8 := row_ok (n := 0) (by omega)
      simp only [acA_n, acV_s, acR_s, List.map_cons, List.map_nil, serV] at ih'
      simp (maxSteps := 1000000) -implicitDefEqProofs only [go_sem, Nat.reduceAdd, Nat.reduceMul, Nat.reduceSub, Nat.reduceDiv, Nat.reduceMod, Nat.reduceLT, Nat.reduceLeDiff, Nat.reduceBEq, Nat.reduceBNe, Nat.reduceEqDiff, Nat.reduceShiftLeft, Nat.reduceShiftRight, Nat.reduceOr, Nat.reduceAnd, Nat.reducePow, Nat.reduceSucc, Int.reduceToNat, Int.reduceAdd, Int.reduceSub, Int.reduceMul, Int.reduceNeg, Int.reduceTMod, Int.reduceTDiv, Int.reduceDiv, Int.reduceMod, Int.reducePow, Int.reduceLT, Int.reduceLE, Int.reduceEq, Int.reduceBEq, Int.reduceBNe, Int.reduceNe, reduceIte, reduceCtorEq, Int.cast_ofNat_Int, implies_true, forall_const, h1, h2, h3, h4, ih', h8.2]
    | some a =>
      have h9 : a.length = i := ho
      have h8 := (row_ok (n := a.length) (by omega)).1
      simp only [acA_s, acV_s, acR_s, List.map_append, List.map_cons, List.map_nil, serV] at ih'
      simp (maxSteps := 1000000) -implicitDefEqProofs only [go_sem, Nat.reduceAdd, Nat.reduceMul, Nat.reduceSub, Nat.reduceDiv, Nat.reduceMod, Nat.reduceLT, Nat.reduceLeDiff, Nat.reduceBEq, Nat.reduceBNe, Nat.reduceEqDiff, Nat.reduceShiftLeft, Nat.reduceShiftRight, Nat.reduceOr, Nat.reduceAnd, Nat.reducePow, Nat.reduceSucc, Int.reduceToNat, Int.reduceAdd, Int.reduceSub, Int.reduceMul, Int.reduceNeg, Int.reduceTMod, Int.reduceTDiv, Int.reduceDiv, Int.reduceMod, Int.reducePow, Int.reduceLT, Int.reduceLE, Int.reduceEq, Int.reduceBEq, Int.reduceBNe, Int.reduceNe, reduceIte, reduceCtorEq, Int.cast_ofNat_Int, implies_true, forall_const, h1, h2, h3, h4, ih', h8]
theorem c85 (b : Bool) (l : List (Ser)) (hb : l.length < 1000000) : (lim T).call 85 [.sl b 8 (l.map serV)] [] 0 [] = some (slV 8 ((l).map serV), [], 0, []) := by
  rw [ent85]
  have h := loop85  b l hb  0 (by omega) none rfl
  rw [show ((0 : Nat) : Int) = 0 from rfl, List.drop_zero, acO_slV] at h
  simp only [acV_n, acR_n] at h
  simp (maxSteps := 1000000) -implicitDefEqProofs only [go_sem, Nat.reduceAdd, Nat.reduceMul, Nat.reduceSub, Nat.reduceDiv, Nat.reduceMod, Nat.reduceLT, Nat.reduceLeDiff, Nat.reduceBEq, Nat.reduceBNe, Nat.reduceEqDiff, Nat.reduceShiftLeft, Nat.reduceShiftRight, Nat.reduceOr, Nat.reduceAnd, Nat.reducePow, Nat.reduceSucc, Int.reduceToNat, Int.reduceAdd, Int.reduceSub, Int.reduceMul, Int.reduceNeg, Int.reduceTMod, Int.reduceTDiv, Int.reduceDiv, Int.reduceMod, Int.reducePow, Int.reduceLT, Int.reduceLE, Int.reduceEq, Int.reduceBEq, Int.reduceBNe, Int.reduceNe, reduceIte, reduceCtorEq, Int.cast_ofNat_Int, implies_true, forall_const, h]
theorem c168 (s : Int × Int × Int) : (lim T).call 168 [.agg [.int .i64 s.1, .int .i64 s.2.1, .int .i64 s.2.2]] [] 0 [] = some (.int .i64 (ckS s), [], 0, []) := by
  rw [ent168]
  simp (maxSteps := 1000000) -implicitDefEqProofs only [go_sem, Nat.reduceAdd, Nat.reduceMul, Nat.reduceSub, Nat.reduceDiv, Nat.reduceMod, Nat.reduceLT, Nat.reduceLeDiff, Nat.reduceBEq, Nat.reduceBNe, Nat.reduceEqDiff, Nat.reduceShiftLeft, Nat.reduceShiftRight, Nat.reduceOr, Nat.reduceAnd, Nat.reducePow, Nat.reduceSucc, Int.reduceToNat, Int.reduceAdd, Int.reduceSub, Int.reduceMul, Int.reduceNeg, Int.reduceTMod, Int.reduceTDiv, Int.reduceDiv, Int.reduceMod, Int.reducePow, Int.reduceLT, Int.reduceLE, Int.reduceEq, Int.reduceBEq, Int.reduceBNe, Int.reduceNe, reduceIte, reduceCtorEq, Int.cast_ofNat_Int, implies_true, forall_const, c137, c114_3, ckS]
def intV (n : Int) : V := .int .i64 n
attribute [go_sem] intV
theorem loop167 (b : Bool) (l : List (Int × Int × Int)) (hb : l.length < 1000000) : ∀ i, i ≤ l.length → ∀ o : Option (List (Int)), acL o = i →
    (lim T).loop false [.code (.loop b167_0), .inBlock 0, .code (.seq r167_7 .ret)] ⟨167, 22, 0, [(1, .fn 168 []), (5, acV o 0), (8, .sl b 3 (l.map spV)), (9, .int .i64 l.length), (10, .int .i64 i)], acR intV o 29, 0, []⟩ =
      some (.ret (acO intV 0 1 (acA o ((l.drop i).map (fun s => ckS s)))), [], 0, []) := by
  refine down_ind l.length ?_ fun i hi ih o ho => ?_
  · intro o ho
    rw [loopEq]
    have h1 := idx_out l.length
    cases o with
    | none =>
      simp (maxSteps := 1000000) -implicitDefEqProofs only [go_sem, Nat.reduceAdd, Nat.reduceMul, Nat.reduceSub, Nat.reduceDiv, Nat.reduceMod, Nat.reduceLT, Nat.reduceLeDiff, Nat.reduceBEq, Nat.reduceBNe, Nat.reduceEqDiff, Nat.reduceShiftLeft, Nat.reduceShiftRight, Nat.reduceOr, Nat.reduceAnd, Nat.reducePow, Nat.reduceSucc, Int.reduceToNat, Int.reduceAdd, Int.reduceSub, Int.reduceMul, Int.reduceNeg, Int.reduceTMod, Int.reduceTDiv, Int.reduceDiv, Int.reduceMod, Int.reducePow, Int.reduceLT, Int.reduceLE, Int.reduceEq, Int.reduceBEq, Int.reduceBNe, Int.reduceNe, reduceIte, reduceCtorEq, Int.cast_ofNat_Int, implies_true, forall_const, h1]
      simp [acA, acO]
    | some a =>
      simp (maxSteps := 1000000) -implicitDefEqProofs only [go_sem, Nat.reduceAdd, Nat.reduceMul, Nat.reduceSub, Nat.reduceDiv, Nat.reduceMod, Nat.reduceLT, Nat.reduceLeDiff, Nat.reduceBEq, Nat.reduceBNe, Nat.reduceEqDiff, Nat.reduceShiftLeft, Nat.reduceShiftRight, Nat.reduceOr, Nat.reduceAnd, Nat.reducePow, Nat.reduceSucc, Int.reduceToNat, Int.reduceAdd, Int.reduceSub, Int.reduceMul, Int.reduceNeg, Int.reduceTMod, Int.reduceTDiv, Int.reduceDiv, Int.reduceMod, Int.reducePow, Int.reduceLT, Int.reduceLE, Int.reduceEq, Int.reduceBEq, Int.reduceBNe, Int.reduceNe, reduceIte, reduceCtorEq, Int.cast_ofNat_Int, implies_true, forall_const, h1]
      simp [acA, acO]
  · obtain ⟨h1, h2, h3, h4, h5⟩ := idx_in hi (by omega)
    rw [loopEq, h5]
    have ih' := ih (acA o [((fun s => ckS s) l[i])]) (by rw [acL_A, ho]; rfl)
    rw [acA_acA] at ih'
    dsimp only at ih'
    cases o with
    | none =>
      have h8 := row_ok (n := 0) (by omega)
      simp only [acA_n, acV_s, acR_s, List.map_cons, List.map_nil, intV] at ih'
      simp (maxSteps := 1000000) -implicitDefEqProofs only [go_sem, Nat.reduceAdd, Nat.reduceMul, Nat.reduceSub, Nat.reduceDiv, Nat.reduceMod, Nat.reduceLT, Nat.reduceLeDiff, Nat.reduceBEq, Nat.reduceBNe, Nat.reduceEqDiff, Nat.reduceShiftLeft, Nat.reduceShiftRight, Nat.reduceOr, Nat.reduceAnd, Nat.reducePow, Nat.reduceSucc, Int.reduceToNat, Int.reduceAdd, Int.reduceSub, Int.reduceMul, Int.reduceNeg, Int.reduceTMod, Int.reduceTDiv, Int.reduceDiv, Int.reduceMod, Int.reducePow, Int.reduceLT, Int.reduceLE, Int.reduceEq, Int.reduceBEq, Int.reduceBNe, Int.reduceNe, reduceIte, reduceCtorEq, Int.cast_ofNat_Int, implies_true, forall_const, h1, h2, h3, h4, ih', h8.2, c168]
    | some a =>
      have h9 : a.length = i := ho
      have h8 := (row_ok (n := a.length) (by omega)).1
      simp only [acA_s, acV_s, acR_s, List.map_append, List.map_cons, List.map_nil, intV] at ih'
      simp (maxSteps := 1000000) -implicitDefEqProofs only [go_sem, Nat.reduceAdd, Nat.reduceMul, Nat.reduceSub, Nat.reduceDiv, Nat.reduceMod, Nat.reduceLT, Nat.reduceLeDiff, Nat.reduceBEq, Nat.reduceBNe, Nat.reduceEqDiff, Nat.reduceShiftLeft, Nat.reduceShiftRight, Nat.reduceOr, Nat.reduceAnd, Nat.reducePow, Nat.reduceSucc, Int.reduceToNat, Int.reduceAdd, Int.reduceSub, Int.reduceMul, Int.reduceNeg, Int.reduceTMod, Int.reduceTDiv, Int.reduceDiv, Int.reduceMod, Int.reducePow, Int.reduceLT, Int.reduceLE, Int.reduceEq, Int.reduceBEq, Int.reduceBNe, Int.reduceNe, reduceIte, reduceCtorEq, Int.cast_ofNat_Int, implies_true, forall_const, h1, h2, h3, h4, ih', h8, c168]
theorem c167 (b : Bool) (l : List (Int × Int × Int)) (hb : l.length < 1000000) : (lim T).call 167 [.sl b 3 (l.map spV), .fn 168 []] [] 0 [] = some (slV 1 (((l).map (fun s => ckS s)).map intV), [], 0, []) := by
  rw [ent167]
  have h := loop167  b l hb  0 (by omega) none rfl
  rw [show ((0 : Nat) : Int) = 0 from rfl, List.drop_zero, acO_slV] at h
  simp only [acV_n, acR_n] at h
  simp (maxSteps := 1000000) -implicitDefEqProofs only [go_sem, Nat.reduceAdd, Nat.reduceMul, Nat.reduceSub, Nat.reduceDiv, Nat.reduceMod, Nat.reduceLT, Nat.reduceLeDiff, Nat.reduceBEq, Nat.reduceBNe, Nat.reduceEqDiff, Nat.reduceShiftLeft, Nat.reduceShiftRight, Nat.reduceOr, Nat.reduceAnd, Nat.reducePow, Nat.reduceSucc, Int.reduceToNat, Int.reduceAdd, Int.reduceSub, Int.reduceMul, Int.reduceNeg, Int.reduceTMod, Int.reduceTDiv, Int.reduceDiv, Int.reduceMod, Int.reducePow, Int.reduceLT, Int.reduceLE, Int.reduceEq, Int.reduceBEq, Int.reduceBNe, Int.reduceNe, reduceIte, reduceCtorEq, Int.cast_ofNat_Int, implies_true, forall_const, h]
theorem c108_3 (b : Bool) (x y z : Int) : (lim T).call 108 [.sl b 1 [.int .i64 x, .int .i64 y, .int .i64 z]] [] 0 [] = some (.int .i64 (fnz [x, y, z]), [], 0, []) := c108 b [x, y, z] (by simp)
theorem loop80 (b : Bool) (l : List (Int × Int × Int)) (hb : l.length < 4611686018427387904) : ∀ i, i ≤ l.length → (lim T).loop false [.code (.loop b80_0), .inBlock 0, .code (.seq r80_9 .ret)] ⟨80, 39, 0, [(0, .sl b 3 (l.map spV)), (3, .int .i64 i)], [], 0, []⟩ = some (.ret (.int .i64 (fnz ((l.drop i).map fun x => ckS x))), [], 0, []) := by
  refine down_ind l.length ?_ fun i hi ih => ?_
  · rw [loopEq]
    have h1 := idx_out l.length
    simp (maxSteps := 1000000) -implicitDefEqProofs only [go_sem, Nat.reduceAdd, Nat.reduceMul, Nat.reduceSub, Nat.reduceDiv, Nat.reduceMod, Nat.reduceLT, Nat.reduceLeDiff, Nat.reduceBEq, Nat.reduceBNe, Nat.reduceEqDiff, Nat.reduceShiftLeft, Nat.reduceShiftRight, Nat.reduceOr, Nat.reduceAnd, Nat.reducePow, Nat.reduceSucc, Int.reduceToNat, Int.reduceAdd, Int.reduceSub, Int.reduceMul, Int.reduceNeg, Int.reduceTMod, Int.reduceTDiv, Int.reduceDiv, Int.reduceMod, Int.reducePow, Int.reduceLT, Int.reduceLE, Int.reduceEq, Int.reduceBEq, Int.reduceBNe, Int.reduceNe, reduceIte, reduceCtorEq, Int.cast_ofNat_Int, implies_true, forall_const, h1]
    simp [fnz]
  · obtain ⟨h1, h2, h3, h4, h5⟩ := idx_in hi (by omega)
    rw [loopEq, h5]
    cases h6 : (ckS l[i] != 0)
    · have h7 : ckS l[i] = 0 := by simpa using h6
      simp (maxSteps := 1000000) -implicitDefEqProofs only [go_sem, Nat.reduceAdd, Nat.reduceMul, Nat.reduceSub, Nat.reduceDiv, Nat.reduceMod, Nat.reduceLT, Nat.reduceLeDiff, Nat.reduceBEq, Nat.reduceBNe, Nat.reduceEqDiff, Nat.reduceShiftLeft, Nat.reduceShiftRight, Nat.reduceOr, Nat.reduceAnd, Nat.reducePow, Nat.reduceSucc, Int.reduceToNat, Int.reduceAdd, Int.reduceSub, Int.reduceMul, Int.reduceNeg, Int.reduceTMod, Int.reduceTDiv, Int.reduceDiv, Int.reduceMod, Int.reducePow, Int.reduceLT, Int.reduceLE, Int.reduceEq, Int.reduceBEq, Int.reduceBNe, Int.reduceNe, reduceIte, reduceCtorEq, Int.cast_ofNat_Int, implies_true, forall_const, h1, h2, h3, h4, h6, ih, c90, c108_3, ckS_f]
      simp [fnz, h7]
    · have h7 : ckS l[i] ≠ 0 := by simpa using h6
      simp (maxSteps := 1000000) -implicitDefEqProofs only [go_sem, Nat.reduceAdd, Nat.reduceMul, Nat.reduceSub, Nat.reduceDiv, Nat.reduceMod, Nat.reduceLT, Nat.reduceLeDiff, Nat.reduceBEq, Nat.reduceBNe, Nat.reduceEqDiff, Nat.reduceShiftLeft, Nat.reduceShiftRight, Nat.reduceOr, Nat.reduceAnd, Nat.reducePow, Nat.reduceSucc, Int.reduceToNat, Int.reduceAdd, Int.reduceSub, Int.reduceMul, Int.reduceNeg, Int.reduceTMod, Int.reduceTDiv, Int.reduceDiv, Int.reduceMod, Int.reducePow, Int.reduceLT, Int.reduceLE, Int.reduceEq, Int.reduceBEq, Int.reduceBNe, Int.reduceNe, reduceIte, reduceCtorEq, Int.cast_ofNat_Int, implies_true, forall_const, h1, h2, h3, h4, h6, c90, c108_3, ckS_f]
      simp [fnz, h7]
def ckSp (l : List (Int × Int × Int)) : Int := if 64 < l.length then 5 else fnz (l.map fun x => ckS x)
theorem c80 (b : Bool) (l : List (Int × Int × Int)) (hb : l.length < 4611686018427387904) : (lim T).call 80 [.sl b 3 (l.map spV)] [] 0 [] = some (.int .i64 (ckSp l), [], 0, []) := by
  rw [ent80]
  have h := loop80 b l hb 0 (by omega)
  rw [show ((0 : Nat) : Int) = 0 from rfl, List.drop_zero] at h
  cases h1 : decide (64 < (l.length : Int))
  · have h2 : ¬ 64 < l.length := by simp at h1; omega
    simp (maxSteps := 1000000) -implicitDefEqProofs only [go_sem, Nat.reduceAdd, Nat.reduceMul, Nat.reduceSub, Nat.reduceDiv, Nat.reduceMod, Nat.reduceLT, Nat.reduceLeDiff, Nat.reduceBEq, Nat.reduceBNe, Nat.reduceEqDiff, Nat.reduceShiftLeft, Nat.reduceShiftRight, Nat.reduceOr, Nat.reduceAnd, Nat.reducePow, Nat.reduceSucc, Int.reduceToNat, Int.reduceAdd, Int.reduceSub, Int.reduceMul, Int.reduceNeg, Int.reduceTMod, Int.reduceTDiv, Int.reduceDiv, Int.reduceMod, Int.reducePow, Int.reduceLT, Int.reduceLE, Int.reduceEq, Int.reduceBEq, Int.reduceBNe, Int.reduceNe, reduceIte, reduceCtorEq, Int.cast_ofNat_Int, implies_true, forall_const, h, h1]
    simp [ckSp, h2]
  · have h2 : 64 < l.length := by simp at h1; omega
    simp (maxSteps := 1000000) -implicitDefEqProofs only [go_sem, Nat.reduceAdd, Nat.reduceMul, Nat.reduceSub, Nat.reduceDiv, Nat.reduceMod, Nat.reduceLT, Nat.reduceLeDiff, Nat.reduceBEq, Nat.reduceBNe, Nat.reduceEqDiff, Nat.reduceShiftLeft, Nat.reduceShiftRight, Nat.reduceOr, Nat.reduceAnd, Nat.reducePow, Nat.reduceSucc, Int.reduceToNat, Int.reduceAdd, Int.reduceSub, Int.reduceMul, Int.reduceNeg, Int.reduceTMod, Int.reduceTDiv, Int.reduceDiv, Int.reduceMod, Int.reducePow, Int.reduceLT, Int.reduceLE, Int.reduceEq, Int.reduceBEq, Int.reduceBNe, Int.reduceNe, reduceIte, reduceCtorEq, Int.cast_ofNat_Int, implies_true, forall_const, h1]
    simp [ckSp, h2]
end Go.Den.FaT

namespace Go.Den.FaT
open Go Go.Proofs Go.Den
set_option linter.unusedVariables false
set_option linter.unusedSimpArgs false
set_option maxRecDepth 100000
def serB (s t : Ser) : Bool := s.a == t.a && (s.b == t.b && (s.c == t.c && (s.d == t.d && (s.e == t.e && (s.f == t.f && (s.g == t.g && s.h == t.h))))))
theorem serB_iff (s t : Ser) : serB s t = true ↔ s = t := by
  cases s; cases t
  simp [serB]
theorem serB_f (s t : Ser) : (s.a == t.a && (s.b == t.b && (s.c == t.c && (s.d == t.d && (s.e == t.e && (s.f == t.f && (s.g == t.g && s.h == t.h))))))) = serB s t := rfl
def atB (m n : Md) : Bool := m.x == n.x && m.y == n.y
theorem atB_f (m n : Md) : (m.x == n.x && m.y == n.y) = atB m n := rfl
theorem c169 (a m : Md) : (lim T).call 169 [mdV a, .pp 10 [mdV m] 0 0] [] 0 [] = some (.bool (serB a.s m.s), [], 0, []) := by
  rw [ent169]
  simp (maxSteps := 1000000) -implicitDefEqProofs only [go_sem, Nat.reduceAdd, Nat.reduceMul, Nat.reduceSub, Nat.reduceDiv, Nat.reduceMod, Nat.reduceLT, Nat.reduceLeDiff, Nat.reduceBEq, Nat.reduceBNe, Nat.reduceEqDiff, Nat.reduceShiftLeft, Nat.reduceShiftRight, Nat.reduceOr, Nat.reduceAnd, Nat.reducePow, Nat.reduceSucc, Int.reduceToNat, Int.reduceAdd, Int.reduceSub, Int.reduceMul, Int.reduceNeg, Int.reduceTMod, Int.reduceTDiv, Int.reduceDiv, Int.reduceMod, Int.reducePow, Int.reduceLT, Int.reduceLE, Int.reduceEq, Int.reduceBEq, Int.reduceBNe, Int.reduceNe, reduceIte, reduceCtorEq, Int.cast_ofNat_Int, implies_true, forall_const, serB_f]
theorem c170 (a m : Md) : (lim T).call 170 [mdV a, .pp 10 [mdV m] 0 0] [] 0 [] = some (.bool (atB a m), [], 0, []) := by
  rw [ent170]
  simp (maxSteps := 1000000) -implicitDefEqProofs only [go_sem, Nat.reduceAdd, Nat.reduceMul, Nat.reduceSub, Nat.reduceDiv, Nat.reduceMod, Nat.reduceLT, Nat.reduceLeDiff, Nat.reduceBEq, Nat.reduceBNe, Nat.reduceEqDiff, Nat.reduceShiftLeft, Nat.reduceShiftRight, Nat.reduceOr, Nat.reduceAnd, Nat.reducePow, Nat.reduceSucc, Int.reduceToNat, Int.reduceAdd, Int.reduceSub, Int.reduceMul, Int.reduceNeg, Int.reduceTMod, Int.reduceTDiv, Int.reduceDiv, Int.reduceMod, Int.reducePow, Int.reduceLT, Int.reduceLE, Int.reduceEq, Int.reduceBEq, Int.reduceBNe, Int.reduceNe, reduceIte, reduceCtorEq, Int.cast_ofNat_Int, implies_true, forall_const, atB_f]
/-- the index of the first one -/
def idxF {α : Type} (P : α → Bool) : List α → Nat → Int
  | [], _ => -1
  | x :: r, i => cond (P x) (i : Int) (idxF P r (i + 1))
theorem idxF_any {α : Type} (P : α → Bool) : ∀ (l : List α) (i : Nat), decide (0 ≤ idxF P l i) = l.any P := by
  intro l
  induction l with
  | nil => intro i; rfl
  | cons x r ih =>
    intro i
    simp only [idxF, List.any_cons]
    rw [← ih (i + 1)]
    by_cases h : P x = true <;> simp [h]
theorem loop220_169 (b : Bool) (m : Md) (l : List Md) (hb : l.length < 4611686018427387904) : ∀ i, i ≤ l.length → (lim T).loop false [.code (.loop b220_0), .inBlock 0, .code (.seq r220_7 .ret)] ⟨220, 19, 0, [(0, .sl b 10 (l.map mdV)), (1, .fn 169 [.pp 10 [mdV m] 0 0]), (7, .int .i64 l.length), (8, .int .i64 i)], [], 0, []⟩ = some (.ret (.int .i64 (idxF (fun a => serB a.s m.s) (l.drop i) i)), [], 0, []) := by
  have hc := fun a => c169 a m
  simp only [mdV] at hc ⊢
  refine down_ind l.length ?_ fun i hi ih => ?_
  · rw [loopEq]
    have h1 := idx_out l.length
    simp (maxSteps := 1000000) -implicitDefEqProofs only [go_sem, Nat.reduceAdd, Nat.reduceMul, Nat.reduceSub, Nat.reduceDiv, Nat.reduceMod, Nat.reduceLT, Nat.reduceLeDiff, Nat.reduceBEq, Nat.reduceBNe, Nat.reduceEqDiff, Nat.reduceShiftLeft, Nat.reduceShiftRight, Nat.reduceOr, Nat.reduceAnd, Nat.reducePow, Nat.reduceSucc, Int.reduceToNat, Int.reduceAdd, Int.reduceSub, Int.reduceMul, Int.reduceNeg, Int.reduceTMod, Int.reduceTDiv, Int.reduceDiv, Int.reduceMod, Int.reducePow, Int.reduceLT, Int.reduceLE, Int.reduceEq, Int.reduceBEq, Int.reduceBNe, Int.reduceNe, reduceIte, reduceCtorEq, Int.cast_ofNat_Int, implies_true, forall_const, h1]
    simp [idxF]
  · obtain ⟨h1, h2, h3, h4, h5⟩ := idx_in hi hb
    rw [loopEq, h5]
    cases h6 : serB l[i].s m.s
    · simp (maxSteps := 1000000) -implicitDefEqProofs only [go_sem, Nat.reduceAdd, Nat.reduceMul, Nat.reduceSub, Nat.reduceDiv, Nat.reduceMod, Nat.reduceLT, Nat.reduceLeDiff, Nat.reduceBEq, Nat.reduceBNe, Nat.reduceEqDiff, Nat.reduceShiftLeft, Nat.reduceShiftRight, Nat.reduceOr, Nat.reduceAnd, Nat.reducePow, Nat.reduceSucc, Int.reduceToNat, Int.reduceAdd, Int.reduceSub, Int.reduceMul, Int.reduceNeg, Int.reduceTMod, Int.reduceTDiv, Int.reduceDiv, Int.reduceMod, Int.reducePow, Int.reduceLT, Int.reduceLE, Int.reduceEq, Int.reduceBEq, Int.reduceBNe, Int.reduceNe, reduceIte, reduceCtorEq, Int.cast_ofNat_Int, implies_true, forall_const, h1, h2, h3, h4, h6, ih, hc]
      simp [idxF, h6]
    · simp (maxSteps := 1000000) -implicitDefEqProofs only [go_sem, Nat.reduceAdd, Nat.reduceMul, Nat.reduceSub, Nat.reduceDiv, Nat.reduceMod, Nat.reduceLT, Nat.reduceLeDiff, Nat.reduceBEq, Nat.reduceBNe, Nat.reduceEqDiff, Nat.reduceShiftLeft, Nat.reduceShiftRight, Nat.reduceOr, Nat.reduceAnd, Nat.reducePow, Nat.reduceSucc, Int.reduceToNat, Int.reduceAdd, Int.reduceSub, Int.reduceMul, Int.reduceNeg, Int.reduceTMod, Int.reduceTDiv, Int.reduceDiv, Int.reduceMod, Int.reducePow, Int.reduceLT, Int.reduceLE, Int.reduceEq, Int.reduceBEq, Int.reduceBNe, Int.reduceNe, reduceIte, reduceCtorEq, Int.cast_ofNat_Int, implies_true, forall_const, h1, h2, h3, h4, h6, hc]
      simp [idxF, h6]
theorem c171_169 (b : Bool) (m : Md) (l : List Md) (hb : l.length < 4611686018427387904) : (lim T).call 171 [.sl b 10 (l.map mdV), .fn 169 [.pp 10 [mdV m] 0 0]] [] 0 [] = some (.bool (l.any (fun a => serB a.s m.s)), [], 0, []) := by
  have h := loop220_169 b m l hb 0 (by omega)
  rw [show ((0 : Nat) : Int) = 0 from rfl, List.drop_zero] at h
  simp only [mdV] at h
  have h2 : (lim T).call 220 [.sl b 10 (l.map mdV), .fn 169 [.pp 10 [mdV m] 0 0]] [] 0 [] = some (.int .i64 (idxF (fun a => serB a.s m.s) l 0), [], 0, []) := by
    rw [ent220]
    simp (maxSteps := 1000000) -implicitDefEqProofs only [go_sem, Nat.reduceAdd, Nat.reduceMul, Nat.reduceSub, Nat.reduceDiv, Nat.reduceMod, Nat.reduceLT, Nat.reduceLeDiff, Nat.reduceBEq, Nat.reduceBNe, Nat.reduceEqDiff, Nat.reduceShiftLeft, Nat.reduceShiftRight, Nat.reduceOr, Nat.reduceAnd, Nat.reducePow, Nat.reduceSucc, Int.reduceToNat, Int.reduceAdd, Int.reduceSub, Int.reduceMul, Int.reduceNeg, Int.reduceTMod, Int.reduceTDiv, Int.reduceDiv, Int.reduceMod, Int.reducePow, Int.reduceLT, Int.reduceLE, Int.reduceEq, Int.reduceBEq, Int.reduceBNe, Int.reduceNe, reduceIte, reduceCtorEq, Int.cast_ofNat_Int, implies_true, forall_const, h]
  rw [ent171, ← idxF_any _ _ 0]
  simp only [mdV] at h2 ⊢
  simp (maxSteps := 1000000) -implicitDefEqProofs only [go_sem, Nat.reduceAdd, Nat.reduceMul, Nat.reduceSub, Nat.reduceDiv, Nat.reduceMod, Nat.reduceLT, Nat.reduceLeDiff, Nat.reduceBEq, Nat.reduceBNe, Nat.reduceEqDiff, Nat.reduceShiftLeft, Nat.reduceShiftRight, Nat.reduceOr, Nat.reduceAnd, Nat.reducePow, Nat.reduceSucc, Int.reduceToNat, Int.reduceAdd, Int.reduceSub, Int.reduceMul, Int.reduceNeg, Int.reduceTMod, Int.reduceTDiv, Int.reduceDiv, Int.reduceMod, Int.reducePow, Int.reduceLT, Int.reduceLE, Int.reduceEq, Int.reduceBEq, Int.reduceBNe, Int.reduceNe, reduceIte, reduceCtorEq, Int.cast_ofNat_Int, implies_true, forall_const, h2]
theorem loop220_170 (b : Bool) (m : Md) (l : List Md) (hb : l.length < 4611686018427387904) : ∀ i, i ≤ l.length → (lim T).loop false [.code (.loop b220_0), .inBlock 0, .code (.seq r220_7 .ret)] ⟨220, 19, 0, [(0, .sl b 10 (l.map mdV)), (1, .fn 170 [.pp 10 [mdV m] 0 0]), (7, .int .i64 l.length), (8, .int .i64 i)], [], 0, []⟩ = some (.ret (.int .i64 (idxF (fun a => atB a m) (l.drop i) i)), [], 0, []) := by
  have hc := fun a => c170 a m
  simp only [mdV] at hc ⊢
  refine down_ind l.length ?_ fun i hi ih => ?_
  · rw [loopEq]
    have h1 := idx_out l.length
    simp (maxSteps := 1000000) -implicitDefEqProofs only [go_sem, Nat.reduceAdd, Nat.reduceMul, Nat.reduceSub, Nat.reduceDiv, Nat.reduceMod, Nat.reduceLT, Nat.reduceLeDiff, Nat.reduceBEq, Nat.reduceBNe, Nat.reduceEqDiff, Nat.reduceShiftLeft, Nat.reduceShiftRight, Nat.reduceOr, Nat.reduceAnd, Nat.reducePow, Nat.reduceSucc, Int.reduceToNat, Int.reduceAdd, Int.reduceSub, Int.reduceMul, Int.reduceNeg, Int.reduceTMod, Int.reduceTDiv, Int.reduceDiv, Int.reduceMod, Int.reducePow, Int.reduceLT, Int.reduceLE, Int.reduceEq, Int.reduceBEq, Int.reduceBNe, Int.reduceNe, reduceIte, reduceCtorEq, Int.cast_ofNat_Int, implies_true, forall_const, h1]
    simp [idxF]
  · obtain ⟨h1, h2, h3, h4, h5⟩ := idx_in hi hb
    rw [loopEq, h5]
    cases h6 : atB l[i] m
    · simp (maxSteps := 1000000) -implicitDefEqProofs only [go_sem, Nat.reduceAdd, Nat.reduceMul, Nat.reduceSub, Nat.reduceDiv, Nat.reduceMod, Nat.reduceLT, Nat.reduceLeDiff, Nat.reduceBEq, Nat.reduceBNe, Nat.reduceEqDiff, Nat.reduceShiftLeft, Nat.reduceShiftRight, Nat.reduceOr, Nat.reduceAnd, Nat.reducePow, Nat.reduceSucc, Int.reduceToNat, Int.reduceAdd, Int.reduceSub, Int.reduceMul, Int.reduceNeg, Int.reduceTMod, Int.reduceTDiv, Int.reduceDiv, Int.reduceMod, Int.reducePow, Int.reduceLT, Int.reduceLE, Int.reduceEq, Int.reduceBEq, Int.reduceBNe, Int.reduceNe, reduceIte, reduceCtorEq, Int.cast_ofNat_Int, implies_true, forall_const, h1, h2, h3, h4, h6, ih, hc]
      simp [idxF, h6]
    · simp (maxSteps := 1000000) -implicitDefEqProofs only [go_sem, Nat.reduceAdd, Nat.reduceMul, Nat.reduceSub, Nat.reduceDiv, Nat.reduceMod, Nat.reduceLT, Nat.reduceLeDiff, Nat.reduceBEq, Nat.reduceBNe, Nat.reduceEqDiff, Nat.reduceShiftLeft, Nat.reduceShiftRight, Nat.reduceOr, Nat.reduceAnd, Nat.reducePow, Nat.reduceSucc, Int.reduceToNat, Int.reduceAdd, Int.reduceSub, Int.reduceMul, Int.reduceNeg, Int.reduceTMod, Int.reduceTDiv, Int.reduceDiv, Int.reduceMod, Int.reducePow, Int.reduceLT, Int.reduceLE, Int.reduceEq, Int.reduceBEq, Int.reduceBNe, Int.reduceNe, reduceIte, reduceCtorEq, Int.cast_ofNat_Int, implies_true, forall_const, h1, h2, h3, h4, h6, hc]
      simp [idxF, h6]
theorem c171_170 (b : Bool) (m : Md) (l : List Md) (hb : l.length < 4611686018427387904) : (lim T).call 171 [.sl b 10 (l.map mdV), .fn 170 [.pp 10 [mdV m] 0 0]] [] 0 [] = some (.bool (l.any (fun a => atB a m)), [], 0, []) := by
  have h := loop220_170 b m l hb 0 (by omega)
  rw [show ((0 : Nat) : Int) = 0 from rfl, List.drop_zero] at h
  simp only [mdV] at h
  have h2 : (lim T).call 220 [.sl b 10 (l.map mdV), .fn 170 [.pp 10 [mdV m] 0 0]] [] 0 [] = some (.int .i64 (idxF (fun a => atB a m) l 0), [], 0, []) := by
    rw [ent220]
    simp (maxSteps := 1000000) -implicitDefEqProofs only [go_sem, Nat.reduceAdd, Nat.reduceMul, Nat.reduceSub, Nat.reduceDiv, Nat.reduceMod, Nat.reduceLT, Nat.reduceLeDiff, Nat.reduceBEq, Nat.reduceBNe, Nat.reduceEqDiff, Nat.reduceShiftLeft, Nat.reduceShiftRight, Nat.reduceOr, Nat.reduceAnd, Nat.reducePow, Nat.reduceSucc, Int.reduceToNat, Int.reduceAdd, Int.reduceSub, Int.reduceMul, Int.reduceNeg, Int.reduceTMod, Int.reduceTDiv, Int.reduceDiv, Int.reduceMod, Int.reducePow, Int.reduceLT, Int.reduceLE, Int.reduceEq, Int.reduceBEq, Int.reduceBNe, Int.reduceNe, reduceIte, reduceCtorEq, Int.cast_ofNat_Int, implies_true, forall_const, h]
  rw [ent171, ← idxF_any _ _ 0]
  simp only [mdV] at h2 ⊢
  simp (maxSteps := 1000000) -implicitDefEqProofs only [go_sem, Nat.reduceAdd, Nat.reduceMul, Nat.reduceSub, Nat.reduceDiv, Nat.reduceMod, Nat.reduceLT, Nat.reduceLeDiff, Nat.reduceBEq, Nat.reduceBNe, Nat.reduceEqDiff, Nat.reduceShiftLeft, Nat.reduceShiftRight, Nat.reduceOr, Nat.reduceAnd, Nat.reducePow, Nat.reduceSucc, Int.reduceToNat, Int.reduceAdd, Int.reduceSub, Int.reduceMul, Int.reduceNeg, Int.reduceTMod, Int.reduceTDiv, Int.reduceDiv, Int.reduceMod, Int.reducePow, Int.reduceLT, Int.reduceLE, Int.reduceEq, Int.reduceBEq, Int.reduceBNe, Int.reduceNe, reduceIte, reduceCtorEq, Int.cast_ofNat_Int, implies_true, forall_const, h2]
end Go.Den.FaT

namespace Go.Den.FaT
open Go Go.Proofs Go.Den
set_option linter.unusedVariables false
set_option linter.unusedSimpArgs false
set_option maxRecDepth 100000
/-- the error of a module behind others -/
def mdE (l : List Md) (i : Nat) (m : Md) : Int := fnz [ckP m.x m.y, cond ((l.take i).any fun a => serB a.s m.s) 9 0, cond ((l.take i).any fun a => atB a m) 15 0]
theorem mdE_f (l : List Md) (i : Nat) (m : Md) : fnz [ckP m.x m.y, cond ((l.take i).any fun a => serB a.s m.s) 9 0, cond ((l.take i).any fun a => atB a m) 15 0] = mdE l i m := rfl
def mdEs (l : List Md) : Nat → List Md → List Int
  | _, [] => []
  | i, m :: r => mdE l i m :: mdEs l (i + 1) r
def ckMd (l : List Md) : Int := if 64 < l.length then 5 else fnz (mdEs l 0 l)
set_option maxHeartbeats 2000000 in
theorem loop83 (b : Bool) (l : List Md) (hb : l.length < 1000000) : ∀ i, i ≤ l.length → (lim T).loop false [.code (.loop b83_0), .inBlock 0, .code (.seq r83_12 .ret)] ⟨83, 41, 0, [(0, .sl b 10 (l.map mdV)), (11, .sl b 10 (l.map mdV)), (12, .int .i64 l.length), (13, .int .i64 i)], [], 0, []⟩ = some (.ret (.int .i64 (fnz (mdEs l i (l.drop i)))), [], 0, []) := by
  refine down_ind l.length ?_ fun i hi ih => ?_
  · rw [loopEq]
    have h1 := idx_out l.length
    simp (maxSteps := 1000000) -implicitDefEqProofs only [go_sem, Nat.reduceAdd, Nat.reduceMul, Nat.reduceSub, Nat.reduceDiv, Nat.reduceMod, Nat.reduceLT, Nat.reduceLeDiff, Nat.reduceBEq, Nat.reduceBNe, Nat.reduceEqDiff, Nat.reduceShiftLeft, Nat.reduceShiftRight, Nat.reduceOr, Nat.reduceAnd, Nat.reducePow, Nat.reduceSucc, Int.reduceToNat, Int.reduceAdd, Int.reduceSub, Int.reduceMul, Int.reduceNeg, Int.reduceTMod, Int.reduceTDiv, Int.reduceDiv, Int.reduceMod, Int.reducePow, Int.reduceLT, Int.reduceLE, Int.reduceEq, Int.reduceBEq, Int.reduceBNe, Int.reduceNe, reduceIte, reduceCtorEq, Int.cast_ofNat_Int, implies_true, forall_const, h1]
    simp [fnz, mdEs]
  · obtain ⟨h1, h2, h3, h4, h5⟩ := idx_in hi (by omega)
    rw [loopEq, h5]
    have e1 := c171_169 b l[i] (l.take i) (by simp; omega)
    have e2 := c171_170 b l[i] (l.take i) (by simp; omega)
    simp only [List.map_take] at e1 e2
    simp only [mdV] at e1 e2
    have hle : i ≤ l.length := by omega
    cases h6 : (mdE l i l[i] != 0)
    · have h7 : mdE l i l[i] = 0 := by simpa using h6
      simp (maxSteps := 1000000) -implicitDefEqProofs only [go_sem, Nat.reduceAdd, Nat.reduceMul, Nat.reduceSub, Nat.reduceDiv, Nat.reduceMod, Nat.reduceLT, Nat.reduceLeDiff, Nat.reduceBEq, Nat.reduceBNe, Nat.reduceEqDiff, Nat.reduceShiftLeft, Nat.reduceShiftRight, Nat.reduceOr, Nat.reduceAnd, Nat.reducePow, Nat.reduceSucc, Int.reduceToNat, Int.reduceAdd, Int.reduceSub, Int.reduceMul, Int.reduceNeg, Int.reduceTMod, Int.reduceTDiv, Int.reduceDiv, Int.reduceMod, Int.reducePow, Int.reduceLT, Int.reduceLE, Int.reduceEq, Int.reduceBEq, Int.reduceBNe, Int.reduceNe, reduceIte, reduceCtorEq, Int.cast_ofNat_Int, implies_true, forall_const, h1, h2, h3, h4, h6, ih, e1, e2, c161, c115, c114_3, mdE_f]
      simp [fnz, mdEs, h7, need, hle]
    · have h7 : mdE l i l[i] ≠ 0 := by simpa using h6
      simp (maxSteps := 1000000) -implicitDefEqProofs only [go_sem, Nat.reduceAdd, Nat.reduceMul, Nat.reduceSub, Nat.reduceDiv, Nat.reduceMod, Nat.reduceLT, Nat.reduceLeDiff, Nat.reduceBEq, Nat.reduceBNe, Nat.reduceEqDiff, Nat.reduceShiftLeft, Nat.reduceShiftRight, Nat.reduceOr, Nat.reduceAnd, Nat.reducePow, Nat.reduceSucc, Int.reduceToNat, Int.reduceAdd, Int.reduceSub, Int.reduceMul, Int.reduceNeg, Int.reduceTMod, Int.reduceTDiv, Int.reduceDiv, Int.reduceMod, Int.reducePow, Int.reduceLT, Int.reduceLE, Int.reduceEq, Int.reduceBEq, Int.reduceBNe, Int.reduceNe, reduceIte, reduceCtorEq, Int.cast_ofNat_Int, implies_true, forall_const, h1, h2, h3, h4, h6, e1, e2, c161, c115, c114_3, mdE_f]
      simp [fnz, mdEs, h7, need, hle]
theorem c83 (b : Bool) (l : List Md) (hb : l.length < 1000000) : (lim T).call 83 [.sl b 10 (l.map mdV)] [] 0 [] = some (.int .i64 (ckMd l), [], 0, []) := by
  rw [ent83]
  have h := loop83 b l hb 0 (by omega)
  rw [show ((0 : Nat) : Int) = 0 from rfl, List.drop_zero] at h
  cases h1 : decide (64 < (l.length : Int))
  · have h2 : ¬ 64 < l.length := by simp at h1; omega
    simp (maxSteps := 1000000) -implicitDefEqProofs only [go_sem, Nat.reduceAdd, Nat.reduceMul, Nat.reduceSub, Nat.reduceDiv, Nat.reduceMod, Nat.reduceLT, Nat.reduceLeDiff, Nat.reduceBEq, Nat.reduceBNe, Nat.reduceEqDiff, Nat.reduceShiftLeft, Nat.reduceShiftRight, Nat.reduceOr, Nat.reduceAnd, Nat.reducePow, Nat.reduceSucc, Int.reduceToNat, Int.reduceAdd, Int.reduceSub, Int.reduceMul, Int.reduceNeg, Int.reduceTMod, Int.reduceTDiv, Int.reduceDiv, Int.reduceMod, Int.reducePow, Int.reduceLT, Int.reduceLE, Int.reduceEq, Int.reduceBEq, Int.reduceBNe, Int.reduceNe, reduceIte, reduceCtorEq, Int.cast_ofNat_Int, implies_true, forall_const, h, h1]
    simp [ckMd, h2]
  · have h2 : 64 < l.length := by simp at h1; omega
    simp (maxSteps := 1000000) -implicitDefEqProofs only [go_sem, Nat.reduceAdd, Nat.reduceMul, Nat.reduceSub, Nat.reduceDiv, Nat.reduceMod, Nat.reduceLT, Nat.reduceLeDiff, Nat.reduceBEq, Nat.reduceBNe, Nat.reduceEqDiff, Nat.reduceShiftLeft, Nat.reduceShiftRight, Nat.reduceOr, Nat.reduceAnd, Nat.reducePow, Nat.reduceSucc, Int.reduceToNat, Int.reduceAdd, Int.reduceSub, Int.reduceMul, Int.reduceNeg, Int.reduceTMod, Int.reduceTDiv, Int.reduceDiv, Int.reduceMod, Int.reducePow, Int.reduceLT, Int.reduceLE, Int.reduceEq, Int.reduceBEq, Int.reduceBNe, Int.reduceNe, reduceIte, reduceCtorEq, Int.cast_ofNat_Int, implies_true, forall_const, h1]
    simp [ckMd, h2]
noncomputable def L81 (b : Bool) (l : List Md) (i k : Nat) (p q : Bool) : Option Out :=
  (lim T).loop false [.code (.loop b81_1), .inBlock 2, .code (.seq r81_12 (.seq r81_13 (.cond (.tmp 63) (.seq r81_14 .ret) .skip))), .inBlock 1, .code r81_5, .inLoop b81_0, .inBlock 0, .code (.seq r81_15 .ret)]
    ⟨81, 65, 0, [(0, .sl b 10 (l.map mdV)), (3, .int .i64 i), (4, .bool p), (5, .bool q), (6, .int .i64 k)], [], 0, []⟩
theorem loop81i (b : Bool) (l : List Md) (hb : l.length < 1000000) (i : Nat) (hi : i < l.length) : ∀ k, k ≤ i → ∀ p q, L81 b l i k p q = L81 b l i i (p || (((l.take i).drop k).any fun a => serB a.s l[i].s)) (q || (((l.take i).drop k).any fun a => atB a l[i])) := by
  refine down_ind i ?_ fun k hk ih p q => ?_
  · intro p q
    rw [List.drop_of_length_le (by simp; omega)]
    simp
  · obtain ⟨h1, h2, h3, h4, h5⟩ := idx_in (l := l) (i := k) (by omega) (by omega)
    obtain ⟨g1, g2, g3, g4, g5⟩ := idx_in (l := l) (i := i) (by omega) (by omega)
    have e : (l.take i).drop k = l[k] :: (l.take i).drop (k + 1) := by
      rw [List.drop_eq_getElem_cons (by simp; omega)]
      simp
    have hki : decide ((k : Int) < (i : Int)) = true := decide_eq_true (by omega)
    rw [e, List.any_cons, List.any_cons, ← Bool.or_assoc, ← Bool.or_assoc, ← ih]
    conv => lhs; unfold L81; rw [loopEq]
    unfold L81
    cases p <;> cases q
    · simp (maxSteps := 1000000) -implicitDefEqProofs only [go_sem, Nat.reduceAdd, Nat.reduceMul, Nat.reduceSub, Nat.reduceDiv, Nat.reduceMod, Nat.reduceLT, Nat.reduceLeDiff, Nat.reduceBEq, Nat.reduceBNe, Nat.reduceEqDiff, Nat.reduceShiftLeft, Nat.reduceShiftRight, Nat.reduceOr, Nat.reduceAnd, Nat.reducePow, Nat.reduceSucc, Int.reduceToNat, Int.reduceAdd, Int.reduceSub, Int.reduceMul, Int.reduceNeg, Int.reduceTMod, Int.reduceTDiv, Int.reduceDiv, Int.reduceMod, Int.reducePow, Int.reduceLT, Int.reduceLE, Int.reduceEq, Int.reduceBEq, Int.reduceBNe, Int.reduceNe, reduceIte, reduceCtorEq, Int.cast_ofNat_Int, implies_true, forall_const, hki, h2, h3, h4, g2, g3, serB_f, atB_f, Bool.false_or]
    · simp (maxSteps := 1000000) -implicitDefEqProofs only [go_sem, Nat.reduceAdd, Nat.reduceMul, Nat.reduceSub, Nat.reduceDiv, Nat.reduceMod, Nat.reduceLT, Nat.reduceLeDiff, Nat.reduceBEq, Nat.reduceBNe, Nat.reduceEqDiff, Nat.reduceShiftLeft, Nat.reduceShiftRight, Nat.reduceOr, Nat.reduceAnd, Nat.reducePow, Nat.reduceSucc, Int.reduceToNat, Int.reduceAdd, Int.reduceSub, Int.reduceMul, Int.reduceNeg, Int.reduceTMod, Int.reduceTDiv, Int.reduceDiv, Int.reduceMod, Int.reducePow, Int.reduceLT, Int.reduceLE, Int.reduceEq, Int.reduceBEq, Int.reduceBNe, Int.reduceNe, reduceIte, reduceCtorEq, Int.cast_ofNat_Int, implies_true, forall_const, hki, h2, h3, h4, g2, g3, serB_f, atB_f, Bool.false_or, Bool.true_or]
    · simp (maxSteps := 1000000) -implicitDefEqProofs only [go_sem, Nat.reduceAdd, Nat.reduceMul, Nat.reduceSub, Nat.reduceDiv, Nat.reduceMod, Nat.reduceLT, Nat.reduceLeDiff, Nat.reduceBEq, Nat.reduceBNe, Nat.reduceEqDiff, Nat.reduceShiftLeft, Nat.reduceShiftRight, Nat.reduceOr, Nat.reduceAnd, Nat.reducePow, Nat.reduceSucc, Int.reduceToNat, Int.reduceAdd, Int.reduceSub, Int.reduceMul, Int.reduceNeg, Int.reduceTMod, Int.reduceTDiv, Int.reduceDiv, Int.reduceMod, Int.reducePow, Int.reduceLT, Int.reduceLE, Int.reduceEq, Int.reduceBEq, Int.reduceBNe, Int.reduceNe, reduceIte, reduceCtorEq, Int.cast_ofNat_Int, implies_true, forall_const, hki, h2, h3, h4, g2, g3, serB_f, atB_f, Bool.false_or, Bool.true_or]
    · simp (maxSteps := 1000000) -implicitDefEqProofs only [go_sem, Nat.reduceAdd, Nat.reduceMul, Nat.reduceSub, Nat.reduceDiv, Nat.reduceMod, Nat.reduceLT, Nat.reduceLeDiff, Nat.reduceBEq, Nat.reduceBNe, Nat.reduceEqDiff, Nat.reduceShiftLeft, Nat.reduceShiftRight, Nat.reduceOr, Nat.reduceAnd, Nat.reducePow, Nat.reduceSucc, Int.reduceToNat, Int.reduceAdd, Int.reduceSub, Int.reduceMul, Int.reduceNeg, Int.reduceTMod, Int.reduceTDiv, Int.reduceDiv, Int.reduceMod, Int.reducePow, Int.reduceLT, Int.reduceLE, Int.reduceEq, Int.reduceBEq, Int.reduceBNe, Int.reduceNe, reduceIte, reduceCtorEq, Int.cast_ofNat_Int, implies_true, forall_const, hki, h2, h3, h4, g2, g3, serB_f, atB_f, Bool.false_or, Bool.true_or]
theorem loop81 (b : Bool) (l : List Md) (hb : l.length < 1000000) : ∀ i, i ≤ l.length → (lim T).loop false [.code (.loop b81_0), .inBlock 0, .code (.seq r81_15 .ret)] ⟨81, 65, 0, [(0, .sl b 10 (l.map mdV)), (3, .int .i64 i)], [], 0, []⟩ = some (.ret (.int .i64 (fnz (mdEs l i (l.drop i)))), [], 0, []) := by
  refine down_ind l.length ?_ fun i hi ih => ?_
  · rw [loopEq]
    have h1 := idx_out l.length
    simp (maxSteps := 1000000) -implicitDefEqProofs only [go_sem, Nat.reduceAdd, Nat.reduceMul, Nat.reduceSub, Nat.reduceDiv, Nat.reduceMod, Nat.reduceLT, Nat.reduceLeDiff, Nat.reduceBEq, Nat.reduceBNe, Nat.reduceEqDiff, Nat.reduceShiftLeft, Nat.reduceShiftRight, Nat.reduceOr, Nat.reduceAnd, Nat.reducePow, Nat.reduceSucc, Int.reduceToNat, Int.reduceAdd, Int.reduceSub, Int.reduceMul, Int.reduceNeg, Int.reduceTMod, Int.reduceTDiv, Int.reduceDiv, Int.reduceMod, Int.reducePow, Int.reduceLT, Int.reduceLE, Int.reduceEq, Int.reduceBEq, Int.reduceBNe, Int.reduceNe, reduceIte, reduceCtorEq, Int.cast_ofNat_Int, implies_true, forall_const, h1]
    simp [fnz, mdEs]
  · obtain ⟨h1, h2, h3, h4, h5⟩ := idx_in hi (by omega)
    rw [loopEq, h5]
    have hI := loop81i b l hb i hi 0 (by omega) false false
    rw [List.drop_zero, Bool.false_or, Bool.false_or] at hI
    have hE := idx_out i
    have fin : L81 b l i i ((l.take i).any fun a => serB a.s l[i].s) ((l.take i).any fun a => atB a l[i]) = some (.ret (.int .i64 (fnz (mdEs l i (l[i] :: l.drop (i + 1))))), [], 0, []) := by
      unfold L81
      rw [loopEq]
      cases h6 : (mdE l i l[i] != 0)
      · have h7 : mdE l i l[i] = 0 := by simpa using h6
        simp (maxSteps := 1000000) -implicitDefEqProofs only [go_sem, Nat.reduceAdd, Nat.reduceMul, Nat.reduceSub, Nat.reduceDiv, Nat.reduceMod, Nat.reduceLT, Nat.reduceLeDiff, Nat.reduceBEq, Nat.reduceBNe, Nat.reduceEqDiff, Nat.reduceShiftLeft, Nat.reduceShiftRight, Nat.reduceOr, Nat.reduceAnd, Nat.reducePow, Nat.reduceSucc, Int.reduceToNat, Int.reduceAdd, Int.reduceSub, Int.reduceMul, Int.reduceNeg, Int.reduceTMod, Int.reduceTDiv, Int.reduceDiv, Int.reduceMod, Int.reducePow, Int.reduceLT, Int.reduceLE, Int.reduceEq, Int.reduceBEq, Int.reduceBNe, Int.reduceNe, reduceIte, reduceCtorEq, Int.cast_ofNat_Int, implies_true, forall_const, hE, h2, h3, h4, h6, ih, c70, c39, c108_3, mdE_f]
        simp [fnz, mdEs, h7]
      · have h7 : mdE l i l[i] ≠ 0 := by simpa using h6
        simp (maxSteps := 1000000) -implicitDefEqProofs only [go_sem, Nat.reduceAdd, Nat.reduceMul, Nat.reduceSub, Nat.reduceDiv, Nat.reduceMod, Nat.reduceLT, Nat.reduceLeDiff, Nat.reduceBEq, Nat.reduceBNe, Nat.reduceEqDiff, Nat.reduceShiftLeft, Nat.reduceShiftRight, Nat.reduceOr, Nat.reduceAnd, Nat.reducePow, Nat.reduceSucc, Int.reduceToNat, Int.reduceAdd, Int.reduceSub, Int.reduceMul, Int.reduceNeg, Int.reduceTMod, Int.reduceTDiv, Int.reduceDiv, Int.reduceMod, Int.reducePow, Int.reduceLT, Int.reduceLE, Int.reduceEq, Int.reduceBEq, Int.reduceBNe, Int.reduceNe, reduceIte, reduceCtorEq, Int.cast_ofNat_Int, implies_true, forall_const, hE, h2, h3, h4, h6, c70, c39, c108_3, mdE_f]
        simp [fnz, mdEs, h7]
    rw [fin] at hI
    conv at hI => lhs; unfold L81
    rw [show ((0 : Nat) : Int) = 0 from rfl] at hI
    simp (maxSteps := 1000000) -implicitDefEqProofs only [go_sem, Nat.reduceAdd, Nat.reduceMul, Nat.reduceSub, Nat.reduceDiv, Nat.reduceMod, Nat.reduceLT, Nat.reduceLeDiff, Nat.reduceBEq, Nat.reduceBNe, Nat.reduceEqDiff, Nat.reduceShiftLeft, Nat.reduceShiftRight, Nat.reduceOr, Nat.reduceAnd, Nat.reducePow, Nat.reduceSucc, Int.reduceToNat, Int.reduceAdd, Int.reduceSub, Int.reduceMul, Int.reduceNeg, Int.reduceTMod, Int.reduceTDiv, Int.reduceDiv, Int.reduceMod, Int.reducePow, Int.reduceLT, Int.reduceLE, Int.reduceEq, Int.reduceBEq, Int.reduceBNe, Int.reduceNe, reduceIte, reduceCtorEq, Int.cast_ofNat_Int, implies_true, forall_const, h1, hI]
theorem c81 (b : Bool) (l : List Md) (hb : l.length < 1000000) : (lim T).call 81 [.sl b 10 (l.map mdV)] [] 0 [] = some (.int .i64 (ckMd l), [], 0, []) := by
  rw [ent81]
  have h := loop81 b l hb 0 (by omega)
  rw [show ((0 : Nat) : Int) = 0 from rfl, List.drop_zero] at h
  cases h1 : decide (64 < (l.length : Int))
  · have h2 : ¬ 64 < l.length := by simp at h1; omega
    simp (maxSteps := 1000000) -implicitDefEqProofs only [go_sem, Nat.reduceAdd, Nat.reduceMul, Nat.reduceSub, Nat.reduceDiv, Nat.reduceMod, Nat.reduceLT, Nat.reduceLeDiff, Nat.reduceBEq, Nat.reduceBNe, Nat.reduceEqDiff, Nat.reduceShiftLeft, Nat.reduceShiftRight, Nat.reduceOr, Nat.reduceAnd, Nat.reducePow, Nat.reduceSucc, Int.reduceToNat, Int.reduceAdd, Int.reduceSub, Int.reduceMul, Int.reduceNeg, Int.reduceTMod, Int.reduceTDiv, Int.reduceDiv, Int.reduceMod, Int.reducePow, Int.reduceLT, Int.reduceLE, Int.reduceEq, Int.reduceBEq, Int.reduceBNe, Int.reduceNe, reduceIte, reduceCtorEq, Int.cast_ofNat_Int, implies_true, forall_const, h, h1]
    simp [ckMd, h2]
  · have h2 : 64 < l.length := by simp at h1; omega
    simp (maxSteps := 1000000) -implicitDefEqProofs only [go_sem, Nat.reduceAdd, Nat.reduceMul, Nat.reduceSub, Nat.reduceDiv, Nat.reduceMod, Nat.reduceLT, Nat.reduceLeDiff, Nat.reduceBEq, Nat.reduceBNe, Nat.reduceEqDiff, Nat.reduceShiftLeft, Nat.reduceShiftRight, Nat.reduceOr, Nat.reduceAnd, Nat.reducePow, Nat.reduceSucc, Int.reduceToNat, Int.reduceAdd, Int.reduceSub, Int.reduceMul, Int.reduceNeg, Int.reduceTMod, Int.reduceTDiv, Int.reduceDiv, Int.reduceMod, Int.reducePow, Int.reduceLT, Int.reduceLE, Int.reduceEq, Int.reduceBEq, Int.reduceBNe, Int.reduceNe, reduceIte, reduceCtorEq, Int.cast_ofNat_Int, implies_true, forall_const, h1]
    simp [ckMd, h2]
end Go.Den.FaT

namespace Go.Den.FaT
open Go Go.Proofs Go.Den
set_option linter.unusedVariables false
set_option linter.unusedSimpArgs false
set_option maxRecDepth 100000
def fnd (l : List Md) (p : Int × Int) : Option Md := l.find? fun m => m.x == p.1 && m.y == p.2
def outS (l : List Md) (n sx sy : Int) : List (Int × Int × Int) → List Ser
  | [] => []
  | s :: r => match fnd l (cry n sx sy s.1 s.2.1) with
    | some m => m.s :: outS l n sx sy r
    | none => outS l n sx sy r
def nonS (l : List Md) (n sx sy : Int) : Nat → List (Int × Int × Int) → List Int
  | _, [] => []
  | i, s :: r => match fnd l (cry n sx sy s.1 s.2.1) with
    | some m => nonS l n sx sy (i + 1) r
    | none => (i : Int) :: nonS l n sx sy (i + 1) r
theorem outS_len (l : List Md) (n sx sy : Int) (r : List (Int × Int × Int)) : (outS l n sx sy r).length ≤ r.length := by
  induction r with
  | nil => simp [outS]
  | cons s r ih => simp only [outS]; split <;> simp <;> omega
theorem nonS_len (l : List Md) (n sx sy : Int) (r : List (Int × Int × Int)) : ∀ i, (nonS l n sx sy i r).length ≤ r.length := by
  induction r with
  | nil => intro i; simp [nonS]
  | cons s r ih => intro i; have := ih (i + 1); simp only [nonS]; split <;> simp <;> omega
/-- no two modules at one place -/
def dist (l : List Md) : Prop := ∀ i j (hi : i < j) (hj : j < l.length), atB (l[i]'(by omega)) l[j] = false
def kvM (m : Md) : V × V := (.agg [.int .i64 m.x, .int .i64 m.y], .agg [.int .u8 m.s.a, .int .u8 m.s.b, .int .u8 m.s.c, .int .u8 m.s.d, .int .u8 m.s.e, .int .u8 m.s.f, .int .u8 m.s.g, .int .u8 m.s.h])
theorem eq100 (a b c d : Int) : eqT T 5 100 (.agg [.int .i64 a, .int .i64 b]) (.agg [.int .i64 c, .int .i64 d]) = some (a == c && b == d) := by
  simp (maxSteps := 1000000) -implicitDefEqProofs only [go_sem, Nat.reduceAdd, Nat.reduceMul, Nat.reduceSub, Nat.reduceDiv, Nat.reduceMod, Nat.reduceLT, Nat.reduceLeDiff, Nat.reduceBEq, Nat.reduceBNe, Nat.reduceEqDiff, Nat.reduceShiftLeft, Nat.reduceShiftRight, Nat.reduceOr, Nat.reduceAnd, Nat.reducePow, Nat.reduceSucc, Int.reduceToNat, Int.reduceAdd, Int.reduceSub, Int.reduceMul, Int.reduceNeg, Int.reduceTMod, Int.reduceTDiv, Int.reduceDiv, Int.reduceMod, Int.reducePow, Int.reduceLT, Int.reduceLE, Int.reduceEq, Int.reduceBEq, Int.reduceBNe, Int.reduceNe, reduceIte, reduceCtorEq, Int.cast_ofNat_Int, implies_true, forall_const]
theorem key100 (a b : Int) : keyOk T 3 100 (.agg [.int .i64 a, .int .i64 b]) = true := by kernel_rfl
theorem mapSet_new {eq : V → V → Option Bool} {x y : V} : ∀ {es : List (V × V)}, (∀ e ∈ es, eq x e.1 = some false) → mapSet eq es x y = some (es ++ [(x, y)])
  | [], _ => rfl
  | (a, b) :: r, h => by
    have h1 := h (a, b) (List.mem_cons_self ..)
    dsimp only at h1
    simp only [mapSet, h1, mapSet_new (es := r) (fun e he => h e (List.mem_cons_of_mem _ he)), List.cons_append]
theorem set_next {l : List Md} (hd : dist l) {i : Nat} (hi : i < l.length) : mapSet (eqT T 5 100) ((l.take i).map kvM) (.agg [.int .i64 l[i].x, .int .i64 l[i].y]) (.agg [.int .u8 l[i].s.a, .int .u8 l[i].s.b, .int .u8 l[i].s.c, .int .u8 l[i].s.d, .int .u8 l[i].s.e, .int .u8 l[i].s.f, .int .u8 l[i].s.g, .int .u8 l[i].s.h]) = some ((l.take (i + 1)).map kvM) := by
  rw [mapSet_new]
  · rw [List.take_succ_eq_append_getElem hi, List.map_append]; rfl
  · intro e he
    obtain ⟨m, hm, rfl⟩ := List.mem_map.1 he
    obtain ⟨j, hj, rfl⟩ := List.mem_iff_getElem.1 hm
    have hj' : j < i := by simp at hj; omega
    simp only [kvM, List.getElem_take]
    rw [eq100]
    have := hd j i hj' hi
    unfold atB at this
    rw [← this, Bool.beq_comm, Bool.beq_comm (a := l[i].y)]
theorem get_find (l : List Md) (a b : Int) : mapGet (eqT T 5 100) (l.map kvM) (.agg [.int .i64 a, .int .i64 b]) = some ((fnd l (a, b)).map fun m => (kvM m).2) := by
  unfold fnd
  induction l with
  | nil => rfl
  | cons m l ih =>
    simp only [List.map_cons, kvM, mapGet, eq100, List.find?_cons]
    have e : (a == m.x && b == m.y) = (m.x == a && m.y == b) := by rw [Bool.beq_comm, Bool.beq_comm (a := b)]
    rw [e]
    cases h : (m.x == a && m.y == b)
    · simpa [kvM] using ih
    · rfl
noncomputable def L77a (l : List (Int × Int × Int)) (m : List Md) (b c : Bool) (n sx sy : Int) (i : Nat) : Option Out :=
  (lim T).loop false [.code (.loop b77_0), .inBlock 0, .code (.seq r77_10 (.seq r77_11 (.seq (.seq r77_12 (.block 2 (.loop b77_1))) (.seq r77_20 .ret))))]
    ⟨77, 77, 0, [(0, .sl b 3 (l.map spV)), (4, .ptr 0 0 0), (10, .map 1), (36, .sl c 10 (m.map mdV)), (37, .int .i64 m.length), (38, .int .i64 i)], [.cells true true 106 [.agg [.int .i64 n, .int .i64 sx, .int .i64 sy]], .map ((m.take i).map kvM)], 0, []⟩
theorem loop77a (l : List (Int × Int × Int)) (m : List Md) (b c : Bool) (n sx sy : Int) (hm : m.length < 1000000) (hd : dist m) : ∀ i, i ≤ m.length → L77a l m b c n sx sy i = L77a l m b c n sx sy m.length := by
  refine down_ind m.length rfl fun i hi ih => ?_
  obtain ⟨h1, h2, h3, h4, h5⟩ := idx_in hi (by omega)
  rw [← ih]
  conv => lhs; unfold L77a; rw [loopEq]
  have hs := set_next hd hi
  unfold L77a
  simp (maxSteps := 1000000) -implicitDefEqProofs only [go_sem, Nat.reduceAdd, Nat.reduceMul, Nat.reduceSub, Nat.reduceDiv, Nat.reduceMod, Nat.reduceLT, Nat.reduceLeDiff, Nat.reduceBEq, Nat.reduceBNe, Nat.reduceEqDiff, Nat.reduceShiftLeft, Nat.reduceShiftRight, Nat.reduceOr, Nat.reduceAnd, Nat.reducePow, Nat.reduceSucc, Int.reduceToNat, Int.reduceAdd, Int.reduceSub, Int.reduceMul, Int.reduceNeg, Int.reduceTMod, Int.reduceTDiv, Int.reduceDiv, Int.reduceMod, Int.reducePow, Int.reduceLT, Int.reduceLE, Int.reduceEq, Int.reduceBEq, Int.reduceBNe, Int.reduceNe, reduceIte, reduceCtorEq, Int.cast_ofNat_Int, implies_true, forall_const, h1, h2, h3, h4, hs, key100]
end Go.Den.FaT

namespace Go.Den.FaT
open Go Go.Proofs Go.Den
set_option linter.unusedVariables false
set_option linter.unusedSimpArgs false
set_option maxRecDepth 100000
noncomputable def L77b (l : List (Int × Int × Int)) (m : List Md) (b : Bool) (n sx sy : Int) (O : Option (List Ser)) (N : Option (List Int)) (i : Nat) : Option Out :=
  (lim T).loop false [.code (.loop b77_1), .inBlock 2, .code (.seq r77_20 .ret)]
    ⟨77, 77, 0, [(4, .ptr 0 0 0), (10, .map 1), (13, acV O 2), (14, acV N (acI O 2)), (48, .sl b 3 (l.map spV)), (49, .int .i64 l.length), (50, .int .i64 i)],
      .cells true true 106 [.agg [.int .i64 n, .int .i64 sx, .int .i64 sy]] :: .map (m.map kvM) :: (acR serV O 176 ++ acR intV N 3), 0, []⟩
set_option maxHeartbeats 4000000 in
theorem loop77b (l : List (Int × Int × Int)) (m : List Md) (b : Bool) (n sx sy : Int) (hl : l.length < 1000) (hn : 0 ≤ n ∧ n ≤ 3) (hs : bnd 1000000 (sx, sy)) (hp : ∀ s ∈ l, bnd 1000000 (s.1, s.2.1)) : ∀ i, i ≤ l.length → ∀ O N, acL O ≤ i → acL N ≤ i →
    L77b l m b n sx sy O N i = some (.ret (.tup [acO serV 0 8 (acA O (outS m n sx sy (l.drop i))), acO intV 0 1 (acA N (nonS m n sx sy i (l.drop i))), .int .i64 0]), [], 0, []) := by
  refine down_ind l.length ?_ fun i hi ih O N hO hN => ?_
  · intro O N hO hN
    unfold L77b
    rw [loopEq]
    have h1 := idx_out l.length
    have h0 : l.drop l.length = [] := by simp
    rw [h0]
    simp only [outS, nonS, acA_0]
    cases O with
    | none => cases N with
      | none => simp (maxSteps := 1000000) -implicitDefEqProofs only [go_sem, Nat.reduceAdd, Nat.reduceMul, Nat.reduceSub, Nat.reduceDiv, Nat.reduceMod, Nat.reduceLT, Nat.reduceLeDiff, Nat.reduceBEq, Nat.reduceBNe, Nat.reduceEqDiff, Nat.reduceShiftLeft, Nat.reduceShiftRight, Nat.reduceOr, Nat.reduceAnd, Nat.reducePow, Nat.reduceSucc, Int.reduceToNat, Int.reduceAdd, Int.reduceSub, Int.reduceMul, Int.reduceNeg, Int.reduceTMod, Int.reduceTDiv, Int.reduceDiv, Int.reduceMod, Int.reducePow, Int.reduceLT, Int.reduceLE, Int.reduceEq, Int.reduceBEq, Int.reduceBNe, Int.reduceNe, reduceIte, reduceCtorEq, Int.cast_ofNat_Int, implies_true, forall_const, h1]
      | some c => simp (maxSteps := 1000000) -implicitDefEqProofs only [go_sem, Nat.reduceAdd, Nat.reduceMul, Nat.reduceSub, Nat.reduceDiv, Nat.reduceMod, Nat.reduceLT, Nat.reduceLeDiff, Nat.reduceBEq, Nat.reduceBNe, Nat.reduceEqDiff, Nat.reduceShiftLeft, Nat.reduceShiftRight, Nat.reduceOr, Nat.reduceAnd, Nat.reducePow, Nat.reduceSucc, Int.reduceToNat, Int.reduceAdd, Int.reduceSub, Int.reduceMul, Int.reduceNeg, Int.reduceTMod, Int.reduceTDiv, Int.reduceDiv, Int.reduceMod, Int.reducePow, Int.reduceLT, Int.reduceLE, Int.reduceEq, Int.reduceBEq, Int.reduceBNe, Int.reduceNe, reduceIte, reduceCtorEq, Int.cast_ofNat_Int, implies_true, forall_const, h1]
    | some a => cases N with
      | none => simp (maxSteps := 1000000) -implicitDefEqProofs only [go_sem, Nat.reduceAdd, Nat.reduceMul, Nat.reduceSub, Nat.reduceDiv, Nat.reduceMod, Nat.reduceLT, Nat.reduceLeDiff, Nat.reduceBEq, Nat.reduceBNe, Nat.reduceEqDiff, Nat.reduceShiftLeft, Nat.reduceShiftRight, Nat.reduceOr, Nat.reduceAnd, Nat.reducePow, Nat.reduceSucc, Int.reduceToNat, Int.reduceAdd, Int.reduceSub, Int.reduceMul, Int.reduceNeg, Int.reduceTMod, Int.reduceTDiv, Int.reduceDiv, Int.reduceMod, Int.reducePow, Int.reduceLT, Int.reduceLE, Int.reduceEq, Int.reduceBEq, Int.reduceBNe, Int.reduceNe, reduceIte, reduceCtorEq, Int.cast_ofNat_Int, implies_true, forall_const, h1]
      | some c => simp (maxSteps := 1000000) -implicitDefEqProofs only [go_sem, Nat.reduceAdd, Nat.reduceMul, Nat.reduceSub, Nat.reduceDiv, Nat.reduceMod, Nat.reduceLT, Nat.reduceLeDiff, Nat.reduceBEq, Nat.reduceBNe, Nat.reduceEqDiff, Nat.reduceShiftLeft, Nat.reduceShiftRight, Nat.reduceOr, Nat.reduceAnd, Nat.reducePow, Nat.reduceSucc, Int.reduceToNat, Int.reduceAdd, Int.reduceSub, Int.reduceMul, Int.reduceNeg, Int.reduceTMod, Int.reduceTDiv, Int.reduceDiv, Int.reduceMod, Int.reducePow, Int.reduceLT, Int.reduceLE, Int.reduceEq, Int.reduceBEq, Int.reduceBNe, Int.reduceNe, reduceIte, reduceCtorEq, Int.cast_ofNat_Int, implies_true, forall_const, h1]
  · obtain ⟨h1, h2, h3, h4, h5⟩ := idx_in hi (by omega)
    rw [h5]
    have hpi := hp _ (List.getElem_mem hi)
    have hc := c162' n sx sy l[i].1 l[i].2.1 hn hs hpi
    have hg := get_find m (cry n sx sy l[i].1 l[i].2.1).1 (cry n sx sy l[i].1 l[i].2.1).2
    simp only [outS, nonS]
    generalize cry n sx sy l[i].1 l[i].2.1 = C at hc hg ⊢
    have hC : fnd m (C.1, C.2) = fnd m C := rfl
    rw [hC] at hg
    unfold L77b
    rw [loopEq]
    cases hf : fnd m C with
    | none =>
      rw [hf] at hg
      simp only [Option.map_none] at hg
      have ih' := ih O (acA N [(i : Int)]) (by omega) (by rw [acL_A]; simp; omega)
      rw [acA_acA] at ih'
      unfold L77b at ih'
      cases O with
      | none => cases N with
        | none =>
          have h8 := (row_ok (n := 0) (by omega)).2
          simp only [acA_n, acV_n, acR_n, acI_n, acV_s, acR_s, acI_s, List.nil_append, List.cons_append, List.map_cons, List.map_nil, Nat.reduceAdd, intV] at ih'
          simp (maxSteps := 1000000) -implicitDefEqProofs only [go_sem, Nat.reduceAdd, Nat.reduceMul, Nat.reduceSub, Nat.reduceDiv, Nat.reduceMod, Nat.reduceLT, Nat.reduceLeDiff, Nat.reduceBEq, Nat.reduceBNe, Nat.reduceEqDiff, Nat.reduceShiftLeft, Nat.reduceShiftRight, Nat.reduceOr, Nat.reduceAnd, Nat.reducePow, Nat.reduceSucc, Int.reduceToNat, Int.reduceAdd, Int.reduceSub, Int.reduceMul, Int.reduceNeg, Int.reduceTMod, Int.reduceTDiv, Int.reduceDiv, Int.reduceMod, Int.reducePow, Int.reduceLT, Int.reduceLE, Int.reduceEq, Int.reduceBEq, Int.reduceBNe, Int.reduceNe, reduceIte, reduceCtorEq, Int.cast_ofNat_Int, implies_true, forall_const, h1, h2, h3, h4, hc, hg, key100, ih', h8]
        | some a =>
          have h9 : a.length ≤ i := hN
          have h8 := (row_ok (n := a.length) (by omega)).1
          simp only [acA_s, acV_n, acR_n, acI_n, acV_s, acR_s, acI_s, List.nil_append, List.cons_append, List.map_append, List.map_cons, List.map_nil, Nat.reduceAdd, intV] at ih'
          simp (maxSteps := 1000000) -implicitDefEqProofs only [go_sem, Nat.reduceAdd, Nat.reduceMul, Nat.reduceSub, Nat.reduceDiv, Nat.reduceMod, Nat.reduceLT, Nat.reduceLeDiff, Nat.reduceBEq, Nat.reduceBNe, Nat.reduceEqDiff, Nat.reduceShiftLeft, Nat.reduceShiftRight, Nat.reduceOr, Nat.reduceAnd, Nat.reducePow, Nat.reduceSucc, Int.reduceToNat, Int.reduceAdd, Int.reduceSub, Int.reduceMul, Int.reduceNeg, Int.reduceTMod, Int.reduceTDiv, Int.reduceDiv, Int.reduceMod, Int.reducePow, Int.reduceLT, Int.reduceLE, Int.reduceEq, Int.reduceBEq, Int.reduceBNe, Int.reduceNe, reduceIte, reduceCtorEq, Int.cast_ofNat_Int, implies_true, forall_const, h1, h2, h3, h4, hc, hg, key100, ih', h8]
      | some o => cases N with
        | none =>
          have h8 := (row_ok (n := 0) (by omega)).2
          simp only [acA_n, acV_n, acR_n, acI_n, acV_s, acR_s, acI_s, List.nil_append, List.cons_append, List.map_cons, List.map_nil, Nat.reduceAdd, intV] at ih'
          simp (maxSteps := 1000000) -implicitDefEqProofs only [go_sem, Nat.reduceAdd, Nat.reduceMul, Nat.reduceSub, Nat.reduceDiv, Nat.reduceMod, Nat.reduceLT, Nat.reduceLeDiff, Nat.reduceBEq, Nat.reduceBNe, Nat.reduceEqDiff, Nat.reduceShiftLeft, Nat.reduceShiftRight, Nat.reduceOr, Nat.reduceAnd, Nat.reducePow, Nat.reduceSucc, Int.reduceToNat, Int.reduceAdd, Int.reduceSub, Int.reduceMul, Int.reduceNeg, Int.reduceTMod, Int.reduceTDiv, Int.reduceDiv, Int.reduceMod, Int.reducePow, Int.reduceLT, Int.reduceLE, Int.reduceEq, Int.reduceBEq, Int.reduceBNe, Int.reduceNe, reduceIte, reduceCtorEq, Int.cast_ofNat_Int, implies_true, forall_const, h1, h2, h3, h4, hc, hg, key100, ih', h8]
        | some a =>
          have h9 : a.length ≤ i := hN
          have h8 := (row_ok (n := a.length) (by omega)).1
          simp only [acA_s, acV_n, acR_n, acI_n, acV_s, acR_s, acI_s, List.nil_append, List.cons_append, List.map_append, List.map_cons, List.map_nil, Nat.reduceAdd, intV] at ih'
          simp (maxSteps := 1000000) -implicitDefEqProofs only [go_sem, Nat.reduceAdd, Nat.reduceMul, Nat.reduceSub, Nat.reduceDiv, Nat.reduceMod, Nat.reduceLT, Nat.reduceLeDiff, Nat.reduceBEq, Nat.reduceBNe, Nat.reduceEqDiff, Nat.reduceShiftLeft, Nat.reduceShiftRight, Nat.reduceOr, Nat.reduceAnd, Nat.reducePow, Nat.reduceSucc, Int.reduceToNat, Int.reduceAdd, Int.reduceSub, Int.reduceMul, Int.reduceNeg, Int.reduceTMod, Int.reduceTDiv, Int.reduceDiv, Int.reduceMod, Int.reducePow, Int.reduceLT, Int.reduceLE, Int.reduceEq, Int.reduceBEq, Int.reduceBNe, Int.reduceNe, reduceIte, reduceCtorEq, Int.cast_ofNat_Int, implies_true, forall_const, h1, h2, h3, h4, hc, hg, key100, ih', h8]
    | some q =>
      rw [hf] at hg
      simp only [Option.map_some, kvM] at hg
      have ih' := ih (acA O [q.s]) N (by rw [acL_A]; simp; omega) (by omega)
      rw [acA_acA] at ih'
      unfold L77b at ih'
      cases O with
      | none =>
        have h8 := (row_ok (n := 0) (by omega)).2
        cases N with
        | none =>
          simp only [acA_n, acV_n, acR_n, acI_n, acV_s, acR_s, acI_s, List.nil_append, List.append_nil, List.cons_append, List.map_cons, List.map_nil, Nat.reduceAdd, serV] at ih'
          simp (maxSteps := 1000000) -implicitDefEqProofs only [go_sem, Nat.reduceAdd, Nat.reduceMul, Nat.reduceSub, Nat.reduceDiv, Nat.reduceMod, Nat.reduceLT, Nat.reduceLeDiff, Nat.reduceBEq, Nat.reduceBNe, Nat.reduceEqDiff, Nat.reduceShiftLeft, Nat.reduceShiftRight, Nat.reduceOr, Nat.reduceAnd, Nat.reducePow, Nat.reduceSucc, Int.reduceToNat, Int.reduceAdd, Int.reduceSub, Int.reduceMul, Int.reduceNeg, Int.reduceTMod, Int.reduceTDiv, Int.reduceDiv, Int.reduceMod, Int.reducePow, Int.reduceLT, Int.reduceLE, Int.reduceEq, Int.reduceBEq, Int.reduceBNe, Int.reduceNe, reduceIte, reduceCtorEq, Int.cast_ofNat_Int, implies_true, forall_const, h1, h2, h3, h4, hc, hg, key100, ih', h8]
        | some a =>
          simp only [acA_n, acV_n, acR_n, acI_n, acV_s, acR_s, acI_s, List.nil_append, List.append_nil, List.cons_append, List.map_cons, List.map_nil, Nat.reduceAdd, serV] at ih'
          simp (maxSteps := 1000000) -implicitDefEqProofs only [go_sem, Nat.reduceAdd, Nat.reduceMul, Nat.reduceSub, Nat.reduceDiv, Nat.reduceMod, Nat.reduceLT, Nat.reduceLeDiff, Nat.reduceBEq, Nat.reduceBNe, Nat.reduceEqDiff, Nat.reduceShiftLeft, Nat.reduceShiftRight, Nat.reduceOr, Nat.reduceAnd, Nat.reducePow, Nat.reduceSucc, Int.reduceToNat, Int.reduceAdd, Int.reduceSub, Int.reduceMul, Int.reduceNeg, Int.reduceTMod, Int.reduceTDiv, Int.reduceDiv, Int.reduceMod, Int.reducePow, Int.reduceLT, Int.reduceLE, Int.reduceEq, Int.reduceBEq, Int.reduceBNe, Int.reduceNe, reduceIte, reduceCtorEq, Int.cast_ofNat_Int, implies_true, forall_const, h1, h2, h3, h4, hc, hg, key100, ih', h8]
      | some o =>
        have h9 : o.length ≤ i := hO
        have h8 := (row_ok (n := o.length) (by omega)).1
        cases N with
        | none =>
          simp only [acA_s, acV_n, acR_n, acI_n, acV_s, acR_s, acI_s, List.nil_append, List.append_nil, List.cons_append, List.map_append, List.map_cons, List.map_nil, Nat.reduceAdd, serV] at ih'
          simp (maxSteps := 1000000) -implicitDefEqProofs only [go_sem, Nat.reduceAdd, Nat.reduceMul, Nat.reduceSub, Nat.reduceDiv, Nat.reduceMod, Nat.reduceLT, Nat.reduceLeDiff, Nat.reduceBEq, Nat.reduceBNe, Nat.reduceEqDiff, Nat.reduceShiftLeft, Nat.reduceShiftRight, Nat.reduceOr, Nat.reduceAnd, Nat.reducePow, Nat.reduceSucc, Int.reduceToNat, Int.reduceAdd, Int.reduceSub, Int.reduceMul, Int.reduceNeg, Int.reduceTMod, Int.reduceTDiv, Int.reduceDiv, Int.reduceMod, Int.reducePow, Int.reduceLT, Int.reduceLE, Int.reduceEq, Int.reduceBEq, Int.reduceBNe, Int.reduceNe, reduceIte, reduceCtorEq, Int.cast_ofNat_Int, implies_true, forall_const, h1, h2, h3, h4, hc, hg, key100, ih', h8]
        | some a =>
          simp only [acA_s, acV_n, acR_n, acI_n, acV_s, acR_s, acI_s, List.nil_append, List.append_nil, List.cons_append, List.map_append, List.map_cons, List.map_nil, Nat.reduceAdd, serV] at ih'
          simp (maxSteps := 1000000) -implicitDefEqProofs only [go_sem, Nat.reduceAdd, Nat.reduceMul, Nat.reduceSub, Nat.reduceDiv, Nat.reduceMod, Nat.reduceLT, Nat.reduceLeDiff, Nat.reduceBEq, Nat.reduceBNe, Nat.reduceEqDiff, Nat.reduceShiftLeft, Nat.reduceShiftRight, Nat.reduceOr, Nat.reduceAnd, Nat.reducePow, Nat.reduceSucc, Int.reduceToNat, Int.reduceAdd, Int.reduceSub, Int.reduceMul, Int.reduceNeg, Int.reduceTMod, Int.reduceTDiv, Int.reduceDiv, Int.reduceMod, Int.reducePow, Int.reduceLT, Int.reduceLE, Int.reduceEq, Int.reduceBEq, Int.reduceBNe, Int.reduceNe, reduceIte, reduceCtorEq, Int.cast_ofNat_Int, implies_true, forall_const, h1, h2, h3, h4, hc, hg, key100, ih', h8]
end Go.Den.FaT

namespace Go.Den.FaT
open Go Go.Proofs Go.Den
set_option linter.unusedVariables false
set_option linter.unusedSimpArgs false
set_option maxRecDepth 100000

theorem ckF_bnd {n x y : Int} (h : ckF n x y = 0) : (0 ≤ n ∧ n ≤ 3) ∧ bnd 1000 (x, y) := by
  simp only [ckF, ckP, fnz, rng_eq] at h
  unfold bnd
  by_cases h1 : n < 0 ∨ 3 < n
  · simp [h1] at h
  · by_cases h2 : x < -1000 ∨ 1000 < x
    · simp [h1, h2] at h
    · by_cases h3 : y < -1000 ∨ 1000 < y
      · simp [h1, h2, h3] at h
      · dsimp only; omega

theorem bnd_mono {a b : Int} (hab : a ≤ b) {p : Int × Int} (h : bnd a p) : bnd b p := by unfold bnd at *; omega

end Go.Den.FaT

namespace Go.Den.FaT
open Go Go.Proofs Go.Den
set_option linter.unusedVariables false
set_option linter.unusedSimpArgs false
set_option maxRecDepth 100000

theorem fnz_zero {l : List Int} : fnz l = 0 ↔ ∀ x ∈ l, x = 0 := by
  induction l with
  | nil => simp [fnz]
  | cons x l ih =>
    simp only [fnz]
    by_cases h : x = 0
    · simp [h, ih]
    · simp [h]
end Go.Den.FaT

namespace Go.Den.FaT
open Go Go.Proofs Go.Den
set_option linter.unusedVariables false
set_option linter.unusedSimpArgs false
set_option maxRecDepth 100000
def ckN (l : List (Int × Int × Int)) (n sx sy : Int) (m : List Md) : Int := fnz [ckSp l, ckF n sx sy, ckMd m]
theorem ckN_eq (l : List (Int × Int × Int)) (n sx sy : Int) (m : List Md) : fnz [cond (decide (64 < (l.length : Int))) 5 0, fnz (l.map fun s => ckS s), ckF n sx sy, ckMd m] = ckN l n sx sy m := by
  unfold ckN ckSp
  by_cases h : 64 < l.length
  · have : (64 : Int) < l.length := by omega
    simp [fnz, h, this]
  · have : ¬ (64 : Int) < l.length := by omega
    simp [fnz, h, this]
theorem mdEs_get (l : List Md) : ∀ (r : List Md) (i k : Nat) (h : k < r.length), mdE l (i + k) r[k] ∈ mdEs l i r
  | [], _, _, h => by cases h
  | m :: r, i, 0, _ => List.mem_cons_self ..
  | m :: r, i, k + 1, h => by
    have := mdEs_get l r (i + 1) k (by simpa using h)
    rw [show i + 1 + k = i + (k + 1) by omega] at this
    exact List.mem_cons_of_mem _ this
theorem ckMd_dist {m : List Md} (h : ckMd m = 0) : m.length ≤ 64 ∧ dist m := by
  unfold ckMd at h
  by_cases hl : 64 < m.length
  · rw [if_pos hl] at h; cases h
  · rw [if_neg hl] at h
    refine ⟨by omega, fun i j hi hj => ?_⟩
    have h1 := fnz_zero.1 h _ (mdEs_get m m 0 j hj)
    rw [Nat.zero_add] at h1
    unfold mdE at h1
    have h2 := fnz_zero.1 h1 (cond ((m.take j).any fun a => atB a m[j]) 15 0) (by simp)
    cases h3 : (m.take j).any fun a => atB a m[j] with
    | true => rw [h3] at h2; cases h2
    | false =>
      rw [List.any_eq_false] at h3
      have h4 := h3 (m[i]'(by omega)) (List.mem_iff_getElem.2 ⟨i, by simp; omega, by simp⟩)
      simpa using h4
theorem ckS_bnd {s : Int × Int × Int} (h : ckS s = 0) : bnd 1000000 (s.1, s.2.1) := by
  unfold ckS at h
  have h1 := fnz_zero.1 h (rng s.1 0 15) (by simp)
  have h2 := fnz_zero.1 h (rng s.2.1 0 15) (by simp)
  rw [rng_eq] at h1 h2
  unfold bnd
  by_cases h3 : s.1 < 0 ∨ 15 < s.1
  · simp [h3] at h1
  · by_cases h4 : s.2.1 < 0 ∨ 15 < s.2.1
    · simp [h4] at h2
    · dsimp only; omega
theorem ckN_ok {l : List (Int × Int × Int)} {n sx sy : Int} {m : List Md} (h : ckN l n sx sy m = 0) : l.length ≤ 64 ∧ (0 ≤ n ∧ n ≤ 3) ∧ bnd 1000000 (sx, sy) ∧ (∀ s ∈ l, bnd 1000000 (s.1, s.2.1)) ∧ m.length ≤ 64 ∧ dist m := by
  unfold ckN at h
  have h1 := fnz_zero.1 h (ckSp l) (by simp)
  have h2 := fnz_zero.1 h (ckF n sx sy) (by simp)
  have h3 := fnz_zero.1 h (ckMd m) (by simp)
  obtain ⟨f1, f2⟩ := ckF_bnd h2
  unfold ckSp at h1
  by_cases hl : 64 < l.length
  · rw [if_pos hl] at h1; cases h1
  · rw [if_neg hl] at h1
    exact ⟨by omega, f1, bnd_mono (by omega) f2, fun s hs => ckS_bnd (fnz_zero.1 h1 _ (List.mem_map.2 ⟨s, hs, rfl⟩)), ckMd_dist h3⟩
theorem c114_4' (b : Bool) (x y z u : Int) : (lim T).call 114 [.sl b 1 [.int .i64 x, .int .i64 y, .int .i64 z, .int .i64 u]] [] 0 [] = some (.int .i64 (fnz [x, y, z, u]), [], 0, []) := c114 b [x, y, z, u] (by simp)
set_option maxHeartbeats 4000000 in
theorem c77 (b c : Bool) (l : List (Int × Int × Int)) (n sx sy : Int) (m : List Md) (hl0 : l.length < 1000) (hm0 : m.length < 1000) :
    (lim T).call 77 [.sl b 3 (l.map spV), .agg [.int .i64 n, .int .i64 sx, .int .i64 sy], .sl c 10 (m.map mdV)] [] 0 [] =
      some (if ckN l n sx sy m = 0 then .tup [slV 8 ((outS m n sx sy l).map serV), slV 1 ((nonS m n sx sy 0 l).map intV), .int .i64 0]
        else .tup [.sl false 0 [], .sl false 0 [], .int .i64 (ckN l n sx sy m)], [], 0, []) := by
  rw [ent77]
  have e1 := c167 b l (by omega)
  have e2 := fun b => c114 b (l.map fun p => ckS p) (by simp; omega)
  have e3 := c83 c m (by omega)
  have e4 := c114_4' true (cond (decide (64 < (l.length : Int))) 5 0) (fnz (l.map fun s => ckS s)) (ckF n sx sy) (ckMd m)
  rw [ckN_eq] at e4
  have e5 : List.map intV (List.map (fun s => ckS s) l) = List.map (fun n => V.int .i64 n) (List.map (fun s => ckS s) l) := rfl
  rw [e5] at e1
  cases h : (ckN l n sx sy m != 0)
  · have h0 : ckN l n sx sy m = 0 := by simpa using h
    rw [if_pos h0]
    obtain ⟨k1, k2, k3, k4, k5, k6⟩ := ckN_ok h0
    have a1 := loop77a l m b c n sx sy (by omega) k6 0 (by omega)
    have a2 : L77a l m b c n sx sy m.length = L77b l m b n sx sy none none 0 := by
      unfold L77a
      rw [loopEq]
      have h1 := idx_out m.length
      unfold L77b
      simp only [acV_n, acR_n, acI_n, List.nil_append, List.append_nil, show ((0 : Nat) : Int) = 0 from rfl]
      rw [List.take_length]
      simp (maxSteps := 1000000) -implicitDefEqProofs only [go_sem, Nat.reduceAdd, Nat.reduceMul, Nat.reduceSub, Nat.reduceDiv, Nat.reduceMod, Nat.reduceLT, Nat.reduceLeDiff, Nat.reduceBEq, Nat.reduceBNe, Nat.reduceEqDiff, Nat.reduceShiftLeft, Nat.reduceShiftRight, Nat.reduceOr, Nat.reduceAnd, Nat.reducePow, Nat.reduceSucc, Int.reduceToNat, Int.reduceAdd, Int.reduceSub, Int.reduceMul, Int.reduceNeg, Int.reduceTMod, Int.reduceTDiv, Int.reduceDiv, Int.reduceMod, Int.reducePow, Int.reduceLT, Int.reduceLE, Int.reduceEq, Int.reduceBEq, Int.reduceBNe, Int.reduceNe, reduceIte, reduceCtorEq, Int.cast_ofNat_Int, implies_true, forall_const, h1]
    have a3 := loop77b l m b n sx sy (by omega) k2 k3 k4 0 (by omega) none none (Nat.le_refl _) (Nat.le_refl _)
    rw [a2, a3, List.drop_zero, acO_slV, acO_slV] at a1
    unfold L77a at a1
    simp only [List.take_zero, List.map_nil, show ((0 : Nat) : Int) = 0 from rfl] at a1
    simp (maxSteps := 1000000) -implicitDefEqProofs only [go_sem, Nat.reduceAdd, Nat.reduceMul, Nat.reduceSub, Nat.reduceDiv, Nat.reduceMod, Nat.reduceLT, Nat.reduceLeDiff, Nat.reduceBEq, Nat.reduceBNe, Nat.reduceEqDiff, Nat.reduceShiftLeft, Nat.reduceShiftRight, Nat.reduceOr, Nat.reduceAnd, Nat.reducePow, Nat.reduceSucc, Int.reduceToNat, Int.reduceAdd, Int.reduceSub, Int.reduceMul, Int.reduceNeg, Int.reduceTMod, Int.reduceTDiv, Int.reduceDiv, Int.reduceMod, Int.reducePow, Int.reduceLT, Int.reduceLE, Int.reduceEq, Int.reduceBEq, Int.reduceBNe, Int.reduceNe, reduceIte, reduceCtorEq, Int.cast_ofNat_Int, implies_true, forall_const, e1, e2, e3, e4, c115, c160, h, a1]
  · have h0 : ¬ ckN l n sx sy m = 0 := by simpa using h
    rw [if_neg h0]
    simp (maxSteps := 1000000) -implicitDefEqProofs only [go_sem, Nat.reduceAdd, Nat.reduceMul, Nat.reduceSub, Nat.reduceDiv, Nat.reduceMod, Nat.reduceLT, Nat.reduceLeDiff, Nat.reduceBEq, Nat.reduceBNe, Nat.reduceEqDiff, Nat.reduceShiftLeft, Nat.reduceShiftRight, Nat.reduceOr, Nat.reduceAnd, Nat.reducePow, Nat.reduceSucc, Int.reduceToNat, Int.reduceAdd, Int.reduceSub, Int.reduceMul, Int.reduceNeg, Int.reduceTMod, Int.reduceTDiv, Int.reduceDiv, Int.reduceMod, Int.reducePow, Int.reduceLT, Int.reduceLE, Int.reduceEq, Int.reduceBEq, Int.reduceBNe, Int.reduceNe, reduceIte, reduceCtorEq, Int.cast_ofNat_Int, implies_true, forall_const, e1, e2, e3, e4, c115, c160, h]
end Go.Den.FaT

namespace Go.Den.FaT
open Go Go.Proofs Go.Den
set_option linter.unusedVariables false
set_option linter.unusedSimpArgs false
set_option maxRecDepth 100000
def sel (p : Int × Int) (r : List Md) : List Ser := (r.filter fun m => m.x == p.1 && m.y == p.2).map (·.s)
noncomputable def L82i (l : List (Int × Int × Int)) (m : List Md) (b c : Bool) (n sx sy : Int) (O : Option (List Ser)) (N : Option (List Int)) (i : Nat) (p q : Int) (is : Bool) (k : Nat) : Option Out :=
  (lim T).loop false [.code (.loop b82_1), .inBlock 2, .code (.seq r82_14 (.cond (.tmp 49) r82_15 .skip)), .inBlock 1, .code r82_5, .inLoop b82_0, .inBlock 0, .code (.seq r82_16 .ret)]
    ⟨82, 56, 0, [(0, .sl b 3 (l.map spV)), (2, .sl c 10 (m.map mdV)), (4, .ptr 0 0 0), (8, acV O 1), (9, acV N (acI O 1)), (10, .int .i64 i), (11, .ptr (acI N (acI O 1)) 0 0), (12, .bool is), (13, .int .i64 k)],
      .cells true true 102 [.agg [.int .i64 n, .int .i64 sx, .int .i64 sy]] :: (acR serV O 248 ++ (acR intV N 3 ++ [.cells true true 100 [.agg [.int .i64 p, .int .i64 q]]])), 0, []⟩
set_option maxHeartbeats 4000000 in
theorem loop82i (l : List (Int × Int × Int)) (m : List Md) (b c : Bool) (n sx sy : Int) (N : Option (List Int)) (i : Nat) (p q : Int) (hm : m.length < 1000) : ∀ k, k ≤ m.length → ∀ O is, acL O ≤ 100000 + k →
    L82i l m b c n sx sy O N i p q is k = L82i l m b c n sx sy (acA O (sel (p, q) (m.drop k))) N i p q (is || !(sel (p, q) (m.drop k)).isEmpty) m.length := by
  refine down_ind m.length ?_ fun k hk ih O is hO => ?_
  · intro O is hO
    have h0 : m.drop m.length = [] := by simp
    rw [h0]
    simp [sel, acA_0]
  · obtain ⟨h1, h2, h3, h4, h5⟩ := idx_in hk (by omega)
    rw [h5]
    conv => lhs; unfold L82i; rw [loopEq]
    unfold sel
    rw [List.filter_cons]
    cases h6 : (m[k].x == p && m[k].y == q)
    · have ih' := ih O is (by omega)
      simp only [Bool.false_eq_true, if_false]
      unfold sel at ih'
      rw [← ih']
      unfold L82i
      cases O with
      | none => cases N with
        | none =>
          simp only [acV_n, acR_n, acI_n, acV_s, acR_s, acI_s, List.nil_append, List.cons_append, Nat.reduceAdd]
          simp (maxSteps := 1000000) -implicitDefEqProofs only [go_sem, Nat.reduceAdd, Nat.reduceMul, Nat.reduceSub, Nat.reduceDiv, Nat.reduceMod, Nat.reduceLT, Nat.reduceLeDiff, Nat.reduceBEq, Nat.reduceBNe, Nat.reduceEqDiff, Nat.reduceShiftLeft, Nat.reduceShiftRight, Nat.reduceOr, Nat.reduceAnd, Nat.reducePow, Nat.reduceSucc, Int.reduceToNat, Int.reduceAdd, Int.reduceSub, Int.reduceMul, Int.reduceNeg, Int.reduceTMod, Int.reduceTDiv, Int.reduceDiv, Int.reduceMod, Int.reducePow, Int.reduceLT, Int.reduceLE, Int.reduceEq, Int.reduceBEq, Int.reduceBNe, Int.reduceNe, reduceIte, reduceCtorEq, Int.cast_ofNat_Int, implies_true, forall_const, h1, h2, h3, h4, h6]
        | some a =>
          simp only [acV_n, acR_n, acI_n, acV_s, acR_s, acI_s, List.nil_append, List.cons_append, Nat.reduceAdd]
          simp (maxSteps := 1000000) -implicitDefEqProofs only [go_sem, Nat.reduceAdd, Nat.reduceMul, Nat.reduceSub, Nat.reduceDiv, Nat.reduceMod, Nat.reduceLT, Nat.reduceLeDiff, Nat.reduceBEq, Nat.reduceBNe, Nat.reduceEqDiff, Nat.reduceShiftLeft, Nat.reduceShiftRight, Nat.reduceOr, Nat.reduceAnd, Nat.reducePow, Nat.reduceSucc, Int.reduceToNat, Int.reduceAdd, Int.reduceSub, Int.reduceMul, Int.reduceNeg, Int.reduceTMod, Int.reduceTDiv, Int.reduceDiv, Int.reduceMod, Int.reducePow, Int.reduceLT, Int.reduceLE, Int.reduceEq, Int.reduceBEq, Int.reduceBNe, Int.reduceNe, reduceIte, reduceCtorEq, Int.cast_ofNat_Int, implies_true, forall_const, h1, h2, h3, h4, h6]
      | some o => cases N with
        | none =>
          simp only [acV_n, acR_n, acI_n, acV_s, acR_s, acI_s, List.nil_append, List.cons_append, Nat.reduceAdd]
          simp (maxSteps := 1000000) -implicitDefEqProofs only [go_sem, Nat.reduceAdd, Nat.reduceMul, Nat.reduceSub, Nat.reduceDiv, Nat.reduceMod, Nat.reduceLT, Nat.reduceLeDiff, Nat.reduceBEq, Nat.reduceBNe, Nat.reduceEqDiff, Nat.reduceShiftLeft, Nat.reduceShiftRight, Nat.reduceOr, Nat.reduceAnd, Nat.reducePow, Nat.reduceSucc, Int.reduceToNat, Int.reduceAdd, Int.reduceSub, Int.reduceMul, Int.reduceNeg, Int.reduceTMod, Int.reduceTDiv, Int.reduceDiv, Int.reduceMod, Int.reducePow, Int.reduceLT, Int.reduceLE, Int.reduceEq, Int.reduceBEq, Int.reduceBNe, Int.reduceNe, reduceIte, reduceCtorEq, Int.cast_ofNat_Int, implies_true, forall_const, h1, h2, h3, h4, h6]
        | some a =>
          simp only [acV_n, acR_n, acI_n, acV_s, acR_s, acI_s, List.nil_append, List.cons_append, Nat.reduceAdd]
          simp (maxSteps := 1000000) -implicitDefEqProofs only [go_sem, Nat.reduceAdd, Nat.reduceMul, Nat.reduceSub, Nat.reduceDiv, Nat.reduceMod, Nat.reduceLT, Nat.reduceLeDiff, Nat.reduceBEq, Nat.reduceBNe, Nat.reduceEqDiff, Nat.reduceShiftLeft, Nat.reduceShiftRight, Nat.reduceOr, Nat.reduceAnd, Nat.reducePow, Nat.reduceSucc, Int.reduceToNat, Int.reduceAdd, Int.reduceSub, Int.reduceMul, Int.reduceNeg, Int.reduceTMod, Int.reduceTDiv, Int.reduceDiv, Int.reduceMod, Int.reducePow, Int.reduceLT, Int.reduceLE, Int.reduceEq, Int.reduceBEq, Int.reduceBNe, Int.reduceNe, reduceIte, reduceCtorEq, Int.cast_ofNat_Int, implies_true, forall_const, h1, h2, h3, h4, h6]
    · have ih' := ih (acA O [m[k].s]) true (by rw [acL_A]; simp; omega)
      simp only [if_true, List.map_cons, List.isEmpty_cons, Bool.not_false, Bool.or_true]
      rw [acA_acA, Bool.true_or] at ih'
      unfold sel at ih'
      simp only [List.cons_append, List.nil_append] at ih'
      rw [← ih']
      unfold L82i
      cases O with
      | none =>
        have h8 := (row_ok (n := 0) (by omega)).2
        cases N with
        | none =>
          simp only [acA_n, acV_n, acR_n, acI_n, acV_s, acR_s, acI_s, List.nil_append, List.cons_append, List.map_cons, List.map_nil, Nat.reduceAdd, serV]
          simp (maxSteps := 1000000) -implicitDefEqProofs only [go_sem, Nat.reduceAdd, Nat.reduceMul, Nat.reduceSub, Nat.reduceDiv, Nat.reduceMod, Nat.reduceLT, Nat.reduceLeDiff, Nat.reduceBEq, Nat.reduceBNe, Nat.reduceEqDiff, Nat.reduceShiftLeft, Nat.reduceShiftRight, Nat.reduceOr, Nat.reduceAnd, Nat.reducePow, Nat.reduceSucc, Int.reduceToNat, Int.reduceAdd, Int.reduceSub, Int.reduceMul, Int.reduceNeg, Int.reduceTMod, Int.reduceTDiv, Int.reduceDiv, Int.reduceMod, Int.reducePow, Int.reduceLT, Int.reduceLE, Int.reduceEq, Int.reduceBEq, Int.reduceBNe, Int.reduceNe, reduceIte, reduceCtorEq, Int.cast_ofNat_Int, implies_true, forall_const, h1, h2, h3, h4, h6, h8]
        | some a =>
          simp only [acA_n, acV_n, acR_n, acI_n, acV_s, acR_s, acI_s, List.nil_append, List.cons_append, List.map_cons, List.map_nil, Nat.reduceAdd, serV]
          simp (maxSteps := 1000000) -implicitDefEqProofs only [go_sem, Nat.reduceAdd, Nat.reduceMul, Nat.reduceSub, Nat.reduceDiv, Nat.reduceMod, Nat.reduceLT, Nat.reduceLeDiff, Nat.reduceBEq, Nat.reduceBNe, Nat.reduceEqDiff, Nat.reduceShiftLeft, Nat.reduceShiftRight, Nat.reduceOr, Nat.reduceAnd, Nat.reducePow, Nat.reduceSucc, Int.reduceToNat, Int.reduceAdd, Int.reduceSub, Int.reduceMul, Int.reduceNeg, Int.reduceTMod, Int.reduceTDiv, Int.reduceDiv, Int.reduceMod, Int.reducePow, Int.reduceLT, Int.reduceLE, Int.reduceEq, Int.reduceBEq, Int.reduceBNe, Int.reduceNe, reduceIte, reduceCtorEq, Int.cast_ofNat_Int, implies_true, forall_const, h1, h2, h3, h4, h6, h8]
      | some o =>
        have h9 : o.length ≤ 100000 + k := hO
        have h8 := (row_ok (n := o.length) (by omega)).1
        cases N with
        | none =>
          simp only [acA_s, acV_n, acR_n, acI_n, acV_s, acR_s, acI_s, List.nil_append, List.cons_append, List.map_append, List.map_cons, List.map_nil, Nat.reduceAdd, serV]
          simp (maxSteps := 1000000) -implicitDefEqProofs only [go_sem, Nat.reduceAdd, Nat.reduceMul, Nat.reduceSub, Nat.reduceDiv, Nat.reduceMod, Nat.reduceLT, Nat.reduceLeDiff, Nat.reduceBEq, Nat.reduceBNe, Nat.reduceEqDiff, Nat.reduceShiftLeft, Nat.reduceShiftRight, Nat.reduceOr, Nat.reduceAnd, Nat.reducePow, Nat.reduceSucc, Int.reduceToNat, Int.reduceAdd, Int.reduceSub, Int.reduceMul, Int.reduceNeg, Int.reduceTMod, Int.reduceTDiv, Int.reduceDiv, Int.reduceMod, Int.reducePow, Int.reduceLT, Int.reduceLE, Int.reduceEq, Int.reduceBEq, Int.reduceBNe, Int.reduceNe, reduceIte, reduceCtorEq, Int.cast_ofNat_Int, implies_true, forall_const, h1, h2, h3, h4, h6, h8]
        | some a =>
          simp only [acA_s, acV_n, acR_n, acI_n, acV_s, acR_s, acI_s, List.nil_append, List.cons_append, List.map_append, List.map_cons, List.map_nil, Nat.reduceAdd, serV]
          simp (maxSteps := 1000000) -implicitDefEqProofs only [go_sem, Nat.reduceAdd, Nat.reduceMul, Nat.reduceSub, Nat.reduceDiv, Nat.reduceMod, Nat.reduceLT, Nat.reduceLeDiff, Nat.reduceBEq, Nat.reduceBNe, Nat.reduceEqDiff, Nat.reduceShiftLeft, Nat.reduceShiftRight, Nat.reduceOr, Nat.reduceAnd, Nat.reducePow, Nat.reduceSucc, Int.reduceToNat, Int.reduceAdd, Int.reduceSub, Int.reduceMul, Int.reduceNeg, Int.reduceTMod, Int.reduceTDiv, Int.reduceDiv, Int.reduceMod, Int.reducePow, Int.reduceLT, Int.reduceLE, Int.reduceEq, Int.reduceBEq, Int.reduceBNe, Int.reduceNe, reduceIte, reduceCtorEq, Int.cast_ofNat_Int, implies_true, forall_const, h1, h2, h3, h4, h6, h8]
end Go.Den.FaT

namespace Go.Den.FaT
open Go Go.Proofs Go.Den
set_option linter.unusedVariables false
set_option linter.unusedSimpArgs false
set_option maxRecDepth 100000
theorem sel_some {r : List Md} {p : Int × Int} {m : Md} (hd : dist r) (hf : fnd r p = some m) : sel p r = [m.s] := by
  unfold sel fnd at *
  induction r with
  | nil => simp at hf
  | cons a r ih =>
    have hd' : dist r := fun i j hi hj => by
      have := hd (i + 1) (j + 1) (by omega) (by simpa using hj)
      simpa using this
    rw [List.find?_cons] at hf
    rw [List.filter_cons]
    cases h : (a.x == p.1 && a.y == p.2)
    · rw [h] at hf
      simpa using ih hd' hf
    · rw [h] at hf
      cases hf
      have : r.filter (fun m => m.x == p.1 && m.y == p.2) = [] := by
        rw [List.filter_eq_nil_iff]
        intro x hx hxx
        obtain ⟨j, hj, rfl⟩ := List.mem_iff_getElem.1 hx
        have h2 := hd 0 (j + 1) (by omega) (by simpa using hj)
        simp only [List.getElem_cons_zero, List.getElem_cons_succ, atB] at h2
        simp at h hxx h2
        exact h2 (by rw [h.1, hxx.1]) (by rw [h.2, hxx.2])
      rw [this]; rfl
theorem sel_none {r : List Md} {p : Int × Int} (hf : fnd r p = none) : sel p r = [] := by
  unfold sel fnd at *
  rw [List.find?_eq_none] at hf
  rw [List.filter_eq_nil_iff.2 hf]; rfl
noncomputable def L82 (l : List (Int × Int × Int)) (m : List Md) (b c : Bool) (n sx sy : Int) (O : Option (List Ser)) (N : Option (List Int)) (i : Nat) : Option Out :=
  (lim T).loop false [.code (.loop b82_0), .inBlock 0, .code (.seq r82_16 .ret)]
    ⟨82, 56, 0, [(0, .sl b 3 (l.map spV)), (2, .sl c 10 (m.map mdV)), (4, .ptr 0 0 0), (8, acV O 1), (9, acV N (acI O 1)), (10, .int .i64 i)],
      .cells true true 102 [.agg [.int .i64 n, .int .i64 sx, .int .i64 sy]] :: (acR serV O 248 ++ acR intV N 3), 0, []⟩
set_option maxHeartbeats 4000000 in
theorem loop82 (l : List (Int × Int × Int)) (m : List Md) (b c : Bool) (n sx sy : Int) (hl : l.length < 1000) (hm : m.length < 1000) (hd : dist m) (hn : 0 ≤ n ∧ n ≤ 3) (hs : bnd 1000000 (sx, sy)) (hp : ∀ s ∈ l, bnd 1000000 (s.1, s.2.1)) : ∀ i, i ≤ l.length → ∀ O N, acL O ≤ i → acL N ≤ i →
    L82 l m b c n sx sy O N i = some (.ret (.tup [acO serV 0 8 (acA O (outS m n sx sy (l.drop i))), acO intV 0 1 (acA N (nonS m n sx sy i (l.drop i)))]), [], 0, []) := by
  refine down_ind l.length ?_ fun i hi ih O N hO hN => ?_
  · intro O N hO hN
    unfold L82
    rw [loopEq]
    have h1 := idx_out l.length
    have h0 : l.drop l.length = [] := by simp
    rw [h0]
    simp only [outS, nonS, acA_0]
    cases O with
    | none => cases N with
      | none => simp (maxSteps := 1000000) -implicitDefEqProofs only [go_sem, Nat.reduceAdd, Nat.reduceMul, Nat.reduceSub, Nat.reduceDiv, Nat.reduceMod, Nat.reduceLT, Nat.reduceLeDiff, Nat.reduceBEq, Nat.reduceBNe, Nat.reduceEqDiff, Nat.reduceShiftLeft, Nat.reduceShiftRight, Nat.reduceOr, Nat.reduceAnd, Nat.reducePow, Nat.reduceSucc, Int.reduceToNat, Int.reduceAdd, Int.reduceSub, Int.reduceMul, Int.reduceNeg, Int.reduceTMod, Int.reduceTDiv, Int.reduceDiv, Int.reduceMod, Int.reducePow, Int.reduceLT, Int.reduceLE, Int.reduceEq, Int.reduceBEq, Int.reduceBNe, Int.reduceNe, reduceIte, reduceCtorEq, Int.cast_ofNat_Int, implies_true, forall_const, h1]
      | some c => simp (maxSteps := 1000000) -implicitDefEqProofs only [go_sem, Nat.reduceAdd, Nat.reduceMul, Nat.reduceSub, Nat.reduceDiv, Nat.reduceMod, Nat.reduceLT, Nat.reduceLeDiff, Nat.reduceBEq, Nat.reduceBNe, Nat.reduceEqDiff, Nat.reduceShiftLeft, Nat.reduceShiftRight, Nat.reduceOr, Nat.reduceAnd, Nat.reducePow, Nat.reduceSucc, Int.reduceToNat, Int.reduceAdd, Int.reduceSub, Int.reduceMul, Int.reduceNeg, Int.reduceTMod, Int.reduceTDiv, Int.reduceDiv, Int.reduceMod, Int.reducePow, Int.reduceLT, Int.reduceLE, Int.reduceEq, Int.reduceBEq, Int.reduceBNe, Int.reduceNe, reduceIte, reduceCtorEq, Int.cast_ofNat_Int, implies_true, forall_const, h1]
    | some a => cases N with
      | none => simp (maxSteps := 1000000) -implicitDefEqProofs only [go_sem, Nat.reduceAdd, Nat.reduceMul, Nat.reduceSub, Nat.reduceDiv, Nat.reduceMod, Nat.reduceLT, Nat.reduceLeDiff, Nat.reduceBEq, Nat.reduceBNe, Nat.reduceEqDiff, Nat.reduceShiftLeft, Nat.reduceShiftRight, Nat.reduceOr, Nat.reduceAnd, Nat.reducePow, Nat.reduceSucc, Int.reduceToNat, Int.reduceAdd, Int.reduceSub, Int.reduceMul, Int.reduceNeg, Int.reduceTMod, Int.reduceTDiv, Int.reduceDiv, Int.reduceMod, Int.reducePow, Int.reduceLT, Int.reduceLE, Int.reduceEq, Int.reduceBEq, Int.reduceBNe, Int.reduceNe, reduceIte, reduceCtorEq, Int.cast_ofNat_Int, implies_true, forall_const, h1]
      | some c => simp (maxSteps := 1000000) -implicitDefEqProofs only [go_sem, Nat.reduceAdd, Nat.reduceMul, Nat.reduceSub, Nat.reduceDiv, Nat.reduceMod, Nat.reduceLT, Nat.reduceLeDiff, Nat.reduceBEq, Nat.reduceBNe, Nat.reduceEqDiff, Nat.reduceShiftLeft, Nat.reduceShiftRight, Nat.reduceOr, Nat.reduceAnd, Nat.reducePow, Nat.reduceSucc, Int.reduceToNat, Int.reduceAdd, Int.reduceSub, Int.reduceMul, Int.reduceNeg, Int.reduceTMod, Int.reduceTDiv, Int.reduceDiv, Int.reduceMod, Int.reducePow, Int.reduceLT, Int.reduceLE, Int.reduceEq, Int.reduceBEq, Int.reduceBNe, Int.reduceNe, reduceIte, reduceCtorEq, Int.cast_ofNat_Int, implies_true, forall_const, h1]
  · obtain ⟨h1, h2, h3, h4, h5⟩ := idx_in hi (by omega)
    rw [h5]
    have hpi := hp _ (List.getElem_mem hi)
    have hc := c71' n sx sy l[i].1 l[i].2.1 hn hs hpi
    simp only [outS, nonS]
    generalize cry n sx sy l[i].1 l[i].2.1 = C at hc ⊢
    have hI := loop82i l m b c n sx sy N i C.1 C.2 hm 0 (by omega) O false (by omega)
    rw [List.drop_zero, Bool.false_or] at hI
    have hE := idx_out m.length
    have head : L82 l m b c n sx sy O N i = L82i l m b c n sx sy O N i C.1 C.2 false 0 := by
      conv => lhs; unfold L82; rw [loopEq]
      unfold L82i
      rw [show ((0 : Nat) : Int) = 0 from rfl]
      cases O with
      | none => cases N with
        | none =>
          simp only [acV_n, acR_n, acI_n, acV_s, acR_s, acI_s, List.nil_append, List.append_nil, List.cons_append, Nat.reduceAdd]
          simp (maxSteps := 1000000) -implicitDefEqProofs only [go_sem, Nat.reduceAdd, Nat.reduceMul, Nat.reduceSub, Nat.reduceDiv, Nat.reduceMod, Nat.reduceLT, Nat.reduceLeDiff, Nat.reduceBEq, Nat.reduceBNe, Nat.reduceEqDiff, Nat.reduceShiftLeft, Nat.reduceShiftRight, Nat.reduceOr, Nat.reduceAnd, Nat.reducePow, Nat.reduceSucc, Int.reduceToNat, Int.reduceAdd, Int.reduceSub, Int.reduceMul, Int.reduceNeg, Int.reduceTMod, Int.reduceTDiv, Int.reduceDiv, Int.reduceMod, Int.reducePow, Int.reduceLT, Int.reduceLE, Int.reduceEq, Int.reduceBEq, Int.reduceBNe, Int.reduceNe, reduceIte, reduceCtorEq, Int.cast_ofNat_Int, implies_true, forall_const, h1, h2, h3, hc]
        | some a =>
          simp only [acV_n, acR_n, acI_n, acV_s, acR_s, acI_s, List.nil_append, List.append_nil, List.cons_append, Nat.reduceAdd]
          simp (maxSteps := 1000000) -implicitDefEqProofs only [go_sem, Nat.reduceAdd, Nat.reduceMul, Nat.reduceSub, Nat.reduceDiv, Nat.reduceMod, Nat.reduceLT, Nat.reduceLeDiff, Nat.reduceBEq, Nat.reduceBNe, Nat.reduceEqDiff, Nat.reduceShiftLeft, Nat.reduceShiftRight, Nat.reduceOr, Nat.reduceAnd, Nat.reducePow, Nat.reduceSucc, Int.reduceToNat, Int.reduceAdd, Int.reduceSub, Int.reduceMul, Int.reduceNeg, Int.reduceTMod, Int.reduceTDiv, Int.reduceDiv, Int.reduceMod, Int.reducePow, Int.reduceLT, Int.reduceLE, Int.reduceEq, Int.reduceBEq, Int.reduceBNe, Int.reduceNe, reduceIte, reduceCtorEq, Int.cast_ofNat_Int, implies_true, forall_const, h1, h2, h3, hc]
      | some o => cases N with
        | none =>
          simp only [acV_n, acR_n, acI_n, acV_s, acR_s, acI_s, List.nil_append, List.append_nil, List.cons_append, Nat.reduceAdd]
          simp (maxSteps := 1000000) -implicitDefEqProofs only [go_sem, Nat.reduceAdd, Nat.reduceMul, Nat.reduceSub, Nat.reduceDiv, Nat.reduceMod, Nat.reduceLT, Nat.reduceLeDiff, Nat.reduceBEq, Nat.reduceBNe, Nat.reduceEqDiff, Nat.reduceShiftLeft, Nat.reduceShiftRight, Nat.reduceOr, Nat.reduceAnd, Nat.reducePow, Nat.reduceSucc, Int.reduceToNat, Int.reduceAdd, Int.reduceSub, Int.reduceMul, Int.reduceNeg, Int.reduceTMod, Int.reduceTDiv, Int.reduceDiv, Int.reduceMod, Int.reducePow, Int.reduceLT, Int.reduceLE, Int.reduceEq, Int.reduceBEq, Int.reduceBNe, Int.reduceNe, reduceIte, reduceCtorEq, Int.cast_ofNat_Int, implies_true, forall_const, h1, h2, h3, hc]
        | some a =>
          simp only [acV_n, acR_n, acI_n, acV_s, acR_s, acI_s, List.nil_append, List.append_nil, List.cons_append, Nat.reduceAdd]
          simp (maxSteps := 1000000) -implicitDefEqProofs only [go_sem, Nat.reduceAdd, Nat.reduceMul, Nat.reduceSub, Nat.reduceDiv, Nat.reduceMod, Nat.reduceLT, Nat.reduceLeDiff, Nat.reduceBEq, Nat.reduceBNe, Nat.reduceEqDiff, Nat.reduceShiftLeft, Nat.reduceShiftRight, Nat.reduceOr, Nat.reduceAnd, Nat.reducePow, Nat.reduceSucc, Int.reduceToNat, Int.reduceAdd, Int.reduceSub, Int.reduceMul, Int.reduceNeg, Int.reduceTMod, Int.reduceTDiv, Int.reduceDiv, Int.reduceMod, Int.reducePow, Int.reduceLT, Int.reduceLE, Int.reduceEq, Int.reduceBEq, Int.reduceBNe, Int.reduceNe, reduceIte, reduceCtorEq, Int.cast_ofNat_Int, implies_true, forall_const, h1, h2, h3, hc]
    rw [head, hI]
    have hCC : fnd m C = fnd m (C.1, C.2) := rfl
    rw [hCC]
    cases hf : fnd m (C.1, C.2) with
    | none =>
      rw [sel_none hf]
      have ih' := ih O (acA N [(i : Int)]) (by omega) (by rw [acL_A]; simp; omega)
      rw [acA_acA] at ih'
      rw [acA_0]
      simp only [List.isEmpty_nil, Bool.not_true]
      simp only [List.cons_append, List.nil_append] at ih'
      rw [← ih']
      unfold L82i
      rw [loopEq]
      unfold L82
      cases O with
      | none => cases N with
        | none =>
          have h8 := (row_ok (n := 0) (by omega)).2
          simp only [acA_n, acV_n, acR_n, acI_n, acV_s, acR_s, acI_s, List.nil_append, List.append_nil, List.cons_append, List.map_cons, List.map_nil, Nat.reduceAdd, intV]
          simp (maxSteps := 1000000) -implicitDefEqProofs only [go_sem, Nat.reduceAdd, Nat.reduceMul, Nat.reduceSub, Nat.reduceDiv, Nat.reduceMod, Nat.reduceLT, Nat.reduceLeDiff, Nat.reduceBEq, Nat.reduceBNe, Nat.reduceEqDiff, Nat.reduceShiftLeft, Nat.reduceShiftRight, Nat.reduceOr, Nat.reduceAnd, Nat.reducePow, Nat.reduceSucc, Int.reduceToNat, Int.reduceAdd, Int.reduceSub, Int.reduceMul, Int.reduceNeg, Int.reduceTMod, Int.reduceTDiv, Int.reduceDiv, Int.reduceMod, Int.reducePow, Int.reduceLT, Int.reduceLE, Int.reduceEq, Int.reduceBEq, Int.reduceBNe, Int.reduceNe, reduceIte, reduceCtorEq, Int.cast_ofNat_Int, implies_true, forall_const, hE, h4, h8]
        | some a =>
          have h9 : a.length ≤ i := hN
          have h8 := (row_ok (n := a.length) (by omega)).1
          simp only [acA_s, acV_n, acR_n, acI_n, acV_s, acR_s, acI_s, List.nil_append, List.append_nil, List.cons_append, List.map_append, List.map_cons, List.map_nil, Nat.reduceAdd, intV]
          simp (maxSteps := 1000000) -implicitDefEqProofs only [go_sem, Nat.reduceAdd, Nat.reduceMul, Nat.reduceSub, Nat.reduceDiv, Nat.reduceMod, Nat.reduceLT, Nat.reduceLeDiff, Nat.reduceBEq, Nat.reduceBNe, Nat.reduceEqDiff, Nat.reduceShiftLeft, Nat.reduceShiftRight, Nat.reduceOr, Nat.reduceAnd, Nat.reducePow, Nat.reduceSucc, Int.reduceToNat, Int.reduceAdd, Int.reduceSub, Int.reduceMul, Int.reduceNeg, Int.reduceTMod, Int.reduceTDiv, Int.reduceDiv, Int.reduceMod, Int.reducePow, Int.reduceLT, Int.reduceLE, Int.reduceEq, Int.reduceBEq, Int.reduceBNe, Int.reduceNe, reduceIte, reduceCtorEq, Int.cast_ofNat_Int, implies_true, forall_const, hE, h4, h8]
      | some o => cases N with
        | none =>
          have h8 := (row_ok (n := 0) (by omega)).2
          simp only [acA_n, acV_n, acR_n, acI_n, acV_s, acR_s, acI_s, List.nil_append, List.append_nil, List.cons_append, List.map_cons, List.map_nil, Nat.reduceAdd, intV]
          simp (maxSteps := 1000000) -implicitDefEqProofs only [go_sem, Nat.reduceAdd, Nat.reduceMul, Nat.reduceSub, Nat.reduceDiv, Nat.reduceMod, Nat.reduceLT, Nat.reduceLeDiff, Nat.reduceBEq, Nat.reduceBNe, Nat.reduceEqDiff, Nat.reduceShiftLeft, Nat.reduceShiftRight, Nat.reduceOr, Nat.reduceAnd, Nat.reducePow, Nat.reduceSucc, Int.reduceToNat, Int.reduceAdd, Int.reduceSub, Int.reduceMul, Int.reduceNeg, Int.reduceTMod, Int.reduceTDiv, Int.reduceDiv, Int.reduceMod, Int.reducePow, Int.reduceLT, Int.reduceLE, Int.reduceEq, Int.reduceBEq, Int.reduceBNe, Int.reduceNe, reduceIte, reduceCtorEq, Int.cast_ofNat_Int, implies_true, forall_const, hE, h4, h8]
        | some a =>
          have h9 : a.length ≤ i := hN
          have h8 := (row_ok (n := a.length) (by omega)).1
          simp only [acA_s, acV_n, acR_n, acI_n, acV_s, acR_s, acI_s, List.nil_append, List.append_nil, List.cons_append, List.map_append, List.map_cons, List.map_nil, Nat.reduceAdd, intV]
          simp (maxSteps := 1000000) -implicitDefEqProofs only [go_sem, Nat.reduceAdd, Nat.reduceMul, Nat.reduceSub, Nat.reduceDiv, Nat.reduceMod, Nat.reduceLT, Nat.reduceLeDiff, Nat.reduceBEq, Nat.reduceBNe, Nat.reduceEqDiff, Nat.reduceShiftLeft, Nat.reduceShiftRight, Nat.reduceOr, Nat.reduceAnd, Nat.reducePow, Nat.reduceSucc, Int.reduceToNat, Int.reduceAdd, Int.reduceSub, Int.reduceMul, Int.reduceNeg, Int.reduceTMod, Int.reduceTDiv, Int.reduceDiv, Int.reduceMod, Int.reducePow, Int.reduceLT, Int.reduceLE, Int.reduceEq, Int.reduceBEq, Int.reduceBNe, Int.reduceNe, reduceIte, reduceCtorEq, Int.cast_ofNat_Int, implies_true, forall_const, hE, h4, h8]
    | some q =>
      rw [sel_some hd hf]
      have ih' := ih (acA O [q.s]) N (by rw [acL_A]; simp; omega) (by omega)
      rw [acA_acA] at ih'
      simp only [List.isEmpty_cons, Bool.not_false]
      simp only [List.cons_append, List.nil_append] at ih'
      rw [← ih']
      unfold L82i
      rw [loopEq]
      unfold L82
      cases O with
      | none => cases N with
        | none =>
          simp only [acA_n, acV_n, acR_n, acI_n, acV_s, acR_s, acI_s, List.nil_append, List.append_nil, List.cons_append, List.map_append, List.map_cons, List.map_nil, Nat.reduceAdd, serV]
          simp (maxSteps := 1000000) -implicitDefEqProofs only [go_sem, Nat.reduceAdd, Nat.reduceMul, Nat.reduceSub, Nat.reduceDiv, Nat.reduceMod, Nat.reduceLT, Nat.reduceLeDiff, Nat.reduceBEq, Nat.reduceBNe, Nat.reduceEqDiff, Nat.reduceShiftLeft, Nat.reduceShiftRight, Nat.reduceOr, Nat.reduceAnd, Nat.reducePow, Nat.reduceSucc, Int.reduceToNat, Int.reduceAdd, Int.reduceSub, Int.reduceMul, Int.reduceNeg, Int.reduceTMod, Int.reduceTDiv, Int.reduceDiv, Int.reduceMod, Int.reducePow, Int.reduceLT, Int.reduceLE, Int.reduceEq, Int.reduceBEq, Int.reduceBNe, Int.reduceNe, reduceIte, reduceCtorEq, Int.cast_ofNat_Int, implies_true, forall_const, hE, h4]
        | some a =>
          simp only [acA_n, acV_n, acR_n, acI_n, acV_s, acR_s, acI_s, List.nil_append, List.append_nil, List.cons_append, List.map_append, List.map_cons, List.map_nil, Nat.reduceAdd, serV]
          simp (maxSteps := 1000000) -implicitDefEqProofs only [go_sem, Nat.reduceAdd, Nat.reduceMul, Nat.reduceSub, Nat.reduceDiv, Nat.reduceMod, Nat.reduceLT, Nat.reduceLeDiff, Nat.reduceBEq, Nat.reduceBNe, Nat.reduceEqDiff, Nat.reduceShiftLeft, Nat.reduceShiftRight, Nat.reduceOr, Nat.reduceAnd, Nat.reducePow, Nat.reduceSucc, Int.reduceToNat, Int.reduceAdd, Int.reduceSub, Int.reduceMul, Int.reduceNeg, Int.reduceTMod, Int.reduceTDiv, Int.reduceDiv, Int.reduceMod, Int.reducePow, Int.reduceLT, Int.reduceLE, Int.reduceEq, Int.reduceBEq, Int.reduceBNe, Int.reduceNe, reduceIte, reduceCtorEq, Int.cast_ofNat_Int, implies_true, forall_const, hE, h4]
      | some o => cases N with
        | none =>
          simp only [acA_s, acV_n, acR_n, acI_n, acV_s, acR_s, acI_s, List.nil_append, List.append_nil, List.cons_append, List.map_append, List.map_cons, List.map_nil, Nat.reduceAdd, serV]
          simp (maxSteps := 1000000) -implicitDefEqProofs only [go_sem, Nat.reduceAdd, Nat.reduceMul, Nat.reduceSub, Nat.reduceDiv, Nat.reduceMod, Nat.reduceLT, Nat.reduceLeDiff, Nat.reduceBEq, Nat.reduceBNe, Nat.reduceEqDiff, Nat.reduceShiftLeft, Nat.reduceShiftRight, Nat.reduceOr, Nat.reduceAnd, Nat.reducePow, Nat.reduceSucc, Int.reduceToNat, Int.reduceAdd, Int.reduceSub, Int.reduceMul, Int.reduceNeg, Int.reduceTMod, Int.reduceTDiv, Int.reduceDiv, Int.reduceMod, Int.reducePow, Int.reduceLT, Int.reduceLE, Int.reduceEq, Int.reduceBEq, Int.reduceBNe, Int.reduceNe, reduceIte, reduceCtorEq, Int.cast_ofNat_Int, implies_true, forall_const, hE, h4]
        | some a =>
          simp only [acA_s, acV_n, acR_n, acI_n, acV_s, acR_s, acI_s, List.nil_append, List.append_nil, List.cons_append, List.map_append, List.map_cons, List.map_nil, Nat.reduceAdd, serV]
          simp (maxSteps := 1000000) -implicitDefEqProofs only [go_sem, Nat.reduceAdd, Nat.reduceMul, Nat.reduceSub, Nat.reduceDiv, Nat.reduceMod, Nat.reduceLT, Nat.reduceLeDiff, Nat.reduceBEq, Nat.reduceBNe, Nat.reduceEqDiff, Nat.reduceShiftLeft, Nat.reduceShiftRight, Nat.reduceOr, Nat.reduceAnd, Nat.reducePow, Nat.reduceSucc, Int.reduceToNat, Int.reduceAdd, Int.reduceSub, Int.reduceMul, Int.reduceNeg, Int.reduceTMod, Int.reduceTDiv, Int.reduceDiv, Int.reduceMod, Int.reducePow, Int.reduceLT, Int.reduceLE, Int.reduceEq, Int.reduceBEq, Int.reduceBNe, Int.reduceNe, reduceIte, reduceCtorEq, Int.cast_ofNat_Int, implies_true, forall_const, hE, h4]
theorem c82 (b c : Bool) (l : List (Int × Int × Int)) (n sx sy : Int) (m : List Md) (hl : l.length < 1000) (hm : m.length < 1000) (hd : dist m) (hn : 0 ≤ n ∧ n ≤ 3) (hs : bnd 1000000 (sx, sy)) (hp : ∀ s ∈ l, bnd 1000000 (s.1, s.2.1)) :
    (lim T).call 82 [.sl b 3 (l.map spV), .agg [.int .i64 n, .int .i64 sx, .int .i64 sy], .sl c 10 (m.map mdV)] [] 0 [] =
      some (.tup [slV 8 ((outS m n sx sy l).map serV), slV 1 ((nonS m n sx sy 0 l).map intV)], [], 0, []) := by
  rw [ent82]
  have h := loop82 l m b c n sx sy hl hm hd hn hs hp 0 (by omega) none none (Nat.le_refl _) (Nat.le_refl _)
  rw [List.drop_zero, acO_slV, acO_slV] at h
  unfold L82 at h
  simp only [acV_n, acR_n, acI_n, List.nil_append, List.append_nil, show ((0 : Nat) : Int) = 0 from rfl] at h
  simp (maxSteps := 1000000) -implicitDefEqProofs only [go_sem, Nat.reduceAdd, Nat.reduceMul, Nat.reduceSub, Nat.reduceDiv, Nat.reduceMod, Nat.reduceLT, Nat.reduceLeDiff, Nat.reduceBEq, Nat.reduceBNe, Nat.reduceEqDiff, Nat.reduceShiftLeft, Nat.reduceShiftRight, Nat.reduceOr, Nat.reduceAnd, Nat.reducePow, Nat.reduceSucc, Int.reduceToNat, Int.reduceAdd, Int.reduceSub, Int.reduceMul, Int.reduceNeg, Int.reduceTMod, Int.reduceTDiv, Int.reduceDiv, Int.reduceMod, Int.reducePow, Int.reduceLT, Int.reduceLE, Int.reduceEq, Int.reduceBEq, Int.reduceBNe, Int.reduceNe, reduceIte, reduceCtorEq, Int.cast_ofNat_Int, implies_true, forall_const, h]
end Go.Den.FaT

namespace Go.Den.FaT
open Go Go.Proofs Go.Den
set_option linter.unusedVariables false
set_option linter.unusedSimpArgs false
set_option maxRecDepth 100000

theorem c24z (b : Bool) (l : List Int) (e bad : Int) (hb : l.length < 4611686018427387904) (hbad : bad ≠ 0) : (lim T).call 24 [.sl b 1 (l.map fun n => .int .i64 n), .int .i64 e, .int .i64 bad, .sl false 0 []] [] 0 [] =
    some (.bool (decide (l = []) && (e == bad)), [], 0, []) := by
  rw [ent24]
  have h : (bad != 0) = true := by simpa using hbad
  have h3 := c89n b l hb
  cases h2 : decide (l = [])
  · simp (maxSteps := 1000000) -implicitDefEqProofs only [go_sem, Nat.reduceAdd, Nat.reduceMul, Nat.reduceSub, Nat.reduceDiv, Nat.reduceMod, Nat.reduceLT, Nat.reduceLeDiff, Nat.reduceBEq, Nat.reduceBNe, Nat.reduceEqDiff, Nat.reduceShiftLeft, Nat.reduceShiftRight, Nat.reduceOr, Nat.reduceAnd, Nat.reducePow, Nat.reduceSucc, Int.reduceToNat, Int.reduceAdd, Int.reduceSub, Int.reduceMul, Int.reduceNeg, Int.reduceTMod, Int.reduceTDiv, Int.reduceDiv, Int.reduceMod, Int.reducePow, Int.reduceLT, Int.reduceLE, Int.reduceEq, Int.reduceBEq, Int.reduceBNe, Int.reduceNe, reduceIte, reduceCtorEq, Int.cast_ofNat_Int, implies_true, forall_const, h, h3, h2]
  · simp (maxSteps := 1000000) -implicitDefEqProofs only [go_sem, Nat.reduceAdd, Nat.reduceMul, Nat.reduceSub, Nat.reduceDiv, Nat.reduceMod, Nat.reduceLT, Nat.reduceLeDiff, Nat.reduceBEq, Nat.reduceBNe, Nat.reduceEqDiff, Nat.reduceShiftLeft, Nat.reduceShiftRight, Nat.reduceOr, Nat.reduceAnd, Nat.reducePow, Nat.reduceSucc, Int.reduceToNat, Int.reduceAdd, Int.reduceSub, Int.reduceMul, Int.reduceNeg, Int.reduceTMod, Int.reduceTDiv, Int.reduceDiv, Int.reduceMod, Int.reducePow, Int.reduceLT, Int.reduceLE, Int.reduceEq, Int.reduceBEq, Int.reduceBNe, Int.reduceNe, reduceIte, reduceCtorEq, Int.cast_ofNat_Int, implies_true, forall_const, h, h3, h2]
end Go.Den.FaT

namespace Go.Den.FaT
open Go Go.Proofs Go.Den
set_option linter.unusedVariables false
set_option linter.unusedSimpArgs false
set_option maxRecDepth 100000
theorem loop84 (b c : Bool) (l m : List Ser) (hb : l.length < 4611686018427387904) (hm : l.length = m.length) : ∀ i, i ≤ l.length → (lim T).loop false [.code (.loop b84_0), .inBlock 0, .code (.seq r84_8 .ret)] ⟨84, 26, 0, [(0, .sl b 8 (l.map serV)), (1, .sl c 8 (m.map serV)), (5, .int .i64 i)], [], 0, []⟩ = some (.ret (.bool (decide (l.drop i = m.drop i))), [], 0, []) := by
  refine down_ind l.length ?_ fun i hi ih => ?_
  · rw [loopEq]
    have h1 := idx_out l.length
    simp (maxSteps := 1000000) -implicitDefEqProofs only [go_sem, Nat.reduceAdd, Nat.reduceMul, Nat.reduceSub, Nat.reduceDiv, Nat.reduceMod, Nat.reduceLT, Nat.reduceLeDiff, Nat.reduceBEq, Nat.reduceBNe, Nat.reduceEqDiff, Nat.reduceShiftLeft, Nat.reduceShiftRight, Nat.reduceOr, Nat.reduceAnd, Nat.reducePow, Nat.reduceSucc, Int.reduceToNat, Int.reduceAdd, Int.reduceSub, Int.reduceMul, Int.reduceNeg, Int.reduceTMod, Int.reduceTDiv, Int.reduceDiv, Int.reduceMod, Int.reducePow, Int.reduceLT, Int.reduceLE, Int.reduceEq, Int.reduceBEq, Int.reduceBNe, Int.reduceNe, reduceIte, reduceCtorEq, Int.cast_ofNat_Int, implies_true, forall_const, h1]
    simp [hm]
  · obtain ⟨h1, h2, h3, h4, h5⟩ := idx_in hi hb
    obtain ⟨g1, g2, g3, g4, g5⟩ := idx_in (l := m) (i := i) (by omega) (by omega)
    rw [loopEq]
    cases h6 : serB l[i] m[i]
    · have h7 : ¬ l[i] = m[i] := fun e => by rw [(serB_iff _ _).2 e] at h6; cases h6
      simp (maxSteps := 1000000) -implicitDefEqProofs only [go_sem, Nat.reduceAdd, Nat.reduceMul, Nat.reduceSub, Nat.reduceDiv, Nat.reduceMod, Nat.reduceLT, Nat.reduceLeDiff, Nat.reduceBEq, Nat.reduceBNe, Nat.reduceEqDiff, Nat.reduceShiftLeft, Nat.reduceShiftRight, Nat.reduceOr, Nat.reduceAnd, Nat.reducePow, Nat.reduceSucc, Int.reduceToNat, Int.reduceAdd, Int.reduceSub, Int.reduceMul, Int.reduceNeg, Int.reduceTMod, Int.reduceTDiv, Int.reduceDiv, Int.reduceMod, Int.reducePow, Int.reduceLT, Int.reduceLE, Int.reduceEq, Int.reduceBEq, Int.reduceBNe, Int.reduceNe, reduceIte, reduceCtorEq, Int.cast_ofNat_Int, implies_true, forall_const, h1, h2, h3, h4, h6, g1, g2, g3, g4, serB_f]
      simp only [h5, g5, List.cons.injEq, h7, true_and, false_and, decide_false]
    · have h7 : l[i] = m[i] := (serB_iff _ _).1 h6
      simp (maxSteps := 1000000) -implicitDefEqProofs only [go_sem, Nat.reduceAdd, Nat.reduceMul, Nat.reduceSub, Nat.reduceDiv, Nat.reduceMod, Nat.reduceLT, Nat.reduceLeDiff, Nat.reduceBEq, Nat.reduceBNe, Nat.reduceEqDiff, Nat.reduceShiftLeft, Nat.reduceShiftRight, Nat.reduceOr, Nat.reduceAnd, Nat.reducePow, Nat.reduceSucc, Int.reduceToNat, Int.reduceAdd, Int.reduceSub, Int.reduceMul, Int.reduceNeg, Int.reduceTMod, Int.reduceTDiv, Int.reduceDiv, Int.reduceMod, Int.reducePow, Int.reduceLT, Int.reduceLE, Int.reduceEq, Int.reduceBEq, Int.reduceBNe, Int.reduceNe, reduceIte, reduceCtorEq, Int.cast_ofNat_Int, implies_true, forall_const, h1, h2, h3, h4, h6, g1, g2, g3, g4, serB_f, ih]
      simp only [h5, g5, List.cons.injEq, h7, true_and, false_and, decide_false]
theorem c84 (b c : Bool) (l m : List Ser) (hb : l.length < 4611686018427387904) : (lim T).call 84 [.sl b 8 (l.map serV), .sl c 8 (m.map serV)] [] 0 [] = some (.bool (decide (l = m)), [], 0, []) := by
  rw [ent84]
  cases h : ((l.length : Int) != m.length)
  · have h1 : l.length = m.length := by simp at h; omega
    have h2 := loop84 b c l m hb h1 0 (by omega)
    rw [show ((0 : Nat) : Int) = 0 from rfl, List.drop_zero, List.drop_zero] at h2
    simp (maxSteps := 1000000) -implicitDefEqProofs only [go_sem, Nat.reduceAdd, Nat.reduceMul, Nat.reduceSub, Nat.reduceDiv, Nat.reduceMod, Nat.reduceLT, Nat.reduceLeDiff, Nat.reduceBEq, Nat.reduceBNe, Nat.reduceEqDiff, Nat.reduceShiftLeft, Nat.reduceShiftRight, Nat.reduceOr, Nat.reduceAnd, Nat.reducePow, Nat.reduceSucc, Int.reduceToNat, Int.reduceAdd, Int.reduceSub, Int.reduceMul, Int.reduceNeg, Int.reduceTMod, Int.reduceTDiv, Int.reduceDiv, Int.reduceMod, Int.reducePow, Int.reduceLT, Int.reduceLE, Int.reduceEq, Int.reduceBEq, Int.reduceBNe, Int.reduceNe, reduceIte, reduceCtorEq, Int.cast_ofNat_Int, implies_true, forall_const, h, h2]
  · have h1 : ¬ l.length = m.length := by simp at h; omega
    simp (maxSteps := 1000000) -implicitDefEqProofs only [go_sem, Nat.reduceAdd, Nat.reduceMul, Nat.reduceSub, Nat.reduceDiv, Nat.reduceMod, Nat.reduceLT, Nat.reduceLeDiff, Nat.reduceBEq, Nat.reduceBNe, Nat.reduceEqDiff, Nat.reduceShiftLeft, Nat.reduceShiftRight, Nat.reduceOr, Nat.reduceAnd, Nat.reducePow, Nat.reduceSucc, Int.reduceToNat, Int.reduceAdd, Int.reduceSub, Int.reduceMul, Int.reduceNeg, Int.reduceTMod, Int.reduceTDiv, Int.reduceDiv, Int.reduceMod, Int.reducePow, Int.reduceLT, Int.reduceLE, Int.reduceEq, Int.reduceBEq, Int.reduceBNe, Int.reduceNe, reduceIte, reduceCtorEq, Int.cast_ofNat_Int, implies_true, forall_const, h]
    have : ¬ l = m := fun e => h1 (by rw [e])
    simp [this]
theorem c84n : (lim T).call 84 [.sl false 8 [], .sl false 0 []] [] 0 [] = some (.bool true, [], 0, []) := by
  rw [ent84]
  simp (maxSteps := 1000000) -implicitDefEqProofs only [go_sem, Nat.reduceAdd, Nat.reduceMul, Nat.reduceSub, Nat.reduceDiv, Nat.reduceMod, Nat.reduceLT, Nat.reduceLeDiff, Nat.reduceBEq, Nat.reduceBNe, Nat.reduceEqDiff, Nat.reduceShiftLeft, Nat.reduceShiftRight, Nat.reduceOr, Nat.reduceAnd, Nat.reducePow, Nat.reduceSucc, Int.reduceToNat, Int.reduceAdd, Int.reduceSub, Int.reduceMul, Int.reduceNeg, Int.reduceTMod, Int.reduceTDiv, Int.reduceDiv, Int.reduceMod, Int.reducePow, Int.reduceLT, Int.reduceLE, Int.reduceEq, Int.reduceBEq, Int.reduceBNe, Int.reduceNe, reduceIte, reduceCtorEq, Int.cast_ofNat_Int, implies_true, forall_const]
  rw [loopEq]
  simp (maxSteps := 1000000) -implicitDefEqProofs only [go_sem, Nat.reduceAdd, Nat.reduceMul, Nat.reduceSub, Nat.reduceDiv, Nat.reduceMod, Nat.reduceLT, Nat.reduceLeDiff, Nat.reduceBEq, Nat.reduceBNe, Nat.reduceEqDiff, Nat.reduceShiftLeft, Nat.reduceShiftRight, Nat.reduceOr, Nat.reduceAnd, Nat.reducePow, Nat.reduceSucc, Int.reduceToNat, Int.reduceAdd, Int.reduceSub, Int.reduceMul, Int.reduceNeg, Int.reduceTMod, Int.reduceTDiv, Int.reduceDiv, Int.reduceMod, Int.reducePow, Int.reduceLT, Int.reduceLE, Int.reduceEq, Int.reduceBEq, Int.reduceBNe, Int.reduceNe, reduceIte, reduceCtorEq, Int.cast_ofNat_Int, implies_true, forall_const]
theorem c24i (b c : Bool) (l m : List Int) (e bad : Int) (hb : l.length < 4611686018427387904) : (lim T).call 24 [.sl b 1 (l.map intV), .int .i64 e, .int .i64 bad, .sl c 1 (m.map intV)] [] 0 [] =
    some (.bool (decide (l = (if bad = 0 then m else [])) && (e == bad)), [], 0, []) := c24 b c l m e bad hb
theorem c30_3 (b : Bool) (x y z : Int) : (lim T).call 30 [.sl b 1 [.int .i64 x, .int .i64 y, .int .i64 z]] [] 0 [] = some (.int .i64 (fnz [x, y, z]), [], 0, []) := c30 b [x, y, z] (by simp)
theorem c85n : (lim T).call 85 [.sl false 8 []] [] 0 [] = some (slV 8 [], [], 0, []) := c85 false [] (by simp)
theorem slV_0 (z : Nat) : slV z [] = .sl false 0 [] := rfl
set_option maxHeartbeats 8000000 in
theorem c10a (haw : (lim T).call 16 [] [] 0 [] = some (.bool true, [], 0, [])) (b c : Bool) (l : List (Int × Int × Int)) (n sx sy : Int) (m : List Md) (hl : shrt l.length = true) (hm : shrt m.length = true) (h1 : (ckN l n sx sy m == 0) = false) :
    (lim T).call 10 [.sl b 3 (l.map spV), .agg [.int .i64 n, .int .i64 sx, .int .i64 sy], .sl c 10 (m.map mdV)] [] 0 [] = some (.bool true, [], 0, []) := by
  rw [ent10]
  have hl' : l.length < 1000 := by unfold shrt at hl; simp at hl; omega
  have hm' : m.length < 1000 := by unfold shrt at hm; simp at hm; omega
  have e77 := c77 (!(l.map spV).isEmpty) (!(m.map mdV).isEmpty) l n sx sy m hl' hm'
  have e78 := c78 b l (by omega)
  have e79 := c79 c m (by omega)
  have e80 := c80 b l (by omega)
  have e81 := c81 c m (by omega)
  have e83 := c83 (!(m.map mdV).isEmpty) m (by omega)
  have e30 := c30_3 true (ckSp l) (ckF n sx sy) (ckMd m)
  rw [show fnz [ckSp l, ckF n sx sy, ckMd m] = ckN l n sx sy m from rfl] at e30
  have e75 := c75 b l
  have e76 := c76 c m
  rw [hl] at e75
  rw [hm] at e76
  generalize hE : ckN l n sx sy m = E at e77 e30 h1
  have hEE : (E == E) = true := by simp
  have h1' : ¬ E = 0 := by simpa using h1
  rw [if_neg h1'] at e77
  have e24 := c24z false [] E E (by simp) h1'
  simp only [List.map_nil] at e24
  have hMM : (ckMd m == ckMd m) = true := by simp
  simp (maxSteps := 1000000) -implicitDefEqProofs only [go_sem, Nat.reduceAdd, Nat.reduceMul, Nat.reduceSub, Nat.reduceDiv, Nat.reduceMod, Nat.reduceLT, Nat.reduceLeDiff, Nat.reduceBEq, Nat.reduceBNe, Nat.reduceEqDiff, Nat.reduceShiftLeft, Nat.reduceShiftRight, Nat.reduceOr, Nat.reduceAnd, Nat.reducePow, Nat.reduceSucc, Int.reduceToNat, Int.reduceAdd, Int.reduceSub, Int.reduceMul, Int.reduceNeg, Int.reduceTMod, Int.reduceTDiv, Int.reduceDiv, Int.reduceMod, Int.reducePow, Int.reduceLT, Int.reduceLE, Int.reduceEq, Int.reduceBEq, Int.reduceBNe, Int.reduceNe, reduceIte, reduceCtorEq, Int.cast_ofNat_Int, implies_true, forall_const, e75, e76, e77, e78, e79, e80, e81, e83, e30, c69, h1, haw, e24, c84n, c85n, slV_0, hEE, hMM]
end Go.Den.FaT

namespace Go.Den.FaT
open Go Go.Proofs Go.Den
set_option linter.unusedVariables false
set_option linter.unusedSimpArgs false
set_option maxRecDepth 100000
set_option maxHeartbeats 8000000 in
theorem c10b (haw : (lim T).call 16 [] [] 0 [] = some (.bool true, [], 0, [])) (b c : Bool) (l : List (Int × Int × Int)) (n sx sy : Int) (m : List Md) (hl : shrt l.length = true) (hm : shrt m.length = true) (h1 : (ckN l n sx sy m == 0) = true) :
    (lim T).call 10 [.sl b 3 (l.map spV), .agg [.int .i64 n, .int .i64 sx, .int .i64 sy], .sl c 10 (m.map mdV)] [] 0 [] = some (.bool true, [], 0, []) := by
  rw [ent10]
  have hl' : l.length < 1000 := by unfold shrt at hl; simp at hl; omega
  have hm' : m.length < 1000 := by unfold shrt at hm; simp at hm; omega
  have e77 := c77 (!(l.map spV).isEmpty) (!(m.map mdV).isEmpty) l n sx sy m hl' hm'
  have e78 := c78 b l (by omega)
  have e79 := c79 c m (by omega)
  have e80 := c80 b l (by omega)
  have e81 := c81 c m (by omega)
  have e83 := c83 (!(m.map mdV).isEmpty) m (by omega)
  have e30 := c30_3 true (ckSp l) (ckF n sx sy) (ckMd m)
  rw [show fnz [ckSp l, ckF n sx sy, ckMd m] = ckN l n sx sy m from rfl] at e30
  have e75 := c75 b l
  have e76 := c76 c m
  rw [hl] at e75
  rw [hm] at e76
  have h0 : ckN l n sx sy m = 0 := by simpa using h1
  obtain ⟨k1, k2, k3, k4, k5, k6⟩ := ckN_ok h0
  have e82 := c82 b c l n sx sy m hl' hm' k6 k2 k3 k4
  rw [if_pos h0] at e77
  rw [h0] at e30
  have o1 := outS_len m n sx sy l
  have o2 := nonS_len m n sx sy l 0
  generalize outS m n sx sy l = O at e77 e82 o1
  generalize nonS m n sx sy 0 l = N at e77 e82 o2
  have e85 := c85 (!(O.map serV).isEmpty) O (by omega)
  have e84 := c84 (!(O.map serV).isEmpty) (!(O.map serV).isEmpty) O O (by omega)
  rw [show decide (O = O) = true by simp] at e84
  have e24 := c24i (!(N.map intV).isEmpty) (!(N.map intV).isEmpty) N N 0 0 (by omega)
  rw [show (decide (N = if (0 : Int) = 0 then N else []) && ((0 : Int) == 0)) = true by simp] at e24
  have hMM : (ckMd m == ckMd m) = true := by simp
  simp (maxSteps := 1000000) -implicitDefEqProofs only [go_sem, Nat.reduceAdd, Nat.reduceMul, Nat.reduceSub, Nat.reduceDiv, Nat.reduceMod, Nat.reduceLT, Nat.reduceLeDiff, Nat.reduceBEq, Nat.reduceBNe, Nat.reduceEqDiff, Nat.reduceShiftLeft, Nat.reduceShiftRight, Nat.reduceOr, Nat.reduceAnd, Nat.reducePow, Nat.reduceSucc, Int.reduceToNat, Int.reduceAdd, Int.reduceSub, Int.reduceMul, Int.reduceNeg, Int.reduceTMod, Int.reduceTDiv, Int.reduceDiv, Int.reduceMod, Int.reducePow, Int.reduceLT, Int.reduceLE, Int.reduceEq, Int.reduceBEq, Int.reduceBNe, Int.reduceNe, reduceIte, reduceCtorEq, Int.cast_ofNat_Int, implies_true, forall_const, e75, e76, e77, e78, e79, e80, e81, e82, e83, e84, e85, e30, c69, haw, e24, hMM]
theorem c10 (haw : (lim T).call 16 [] [] 0 [] = some (.bool true, [], 0, [])) (b c : Bool) (l : List (Int × Int × Int)) (n sx sy : Int) (m : List Md) :
    (lim T).call 10 [.sl b 3 (l.map spV), .agg [.int .i64 n, .int .i64 sx, .int .i64 sy], .sl c 10 (m.map mdV)] [] 0 [] = some (.bool true, [], 0, []) := by
  cases hl : shrt l.length
  · rw [ent10]
    have e75 := c75 b l
    rw [hl] at e75
    simp (maxSteps := 1000000) -implicitDefEqProofs only [go_sem, Nat.reduceAdd, Nat.reduceMul, Nat.reduceSub, Nat.reduceDiv, Nat.reduceMod, Nat.reduceLT, Nat.reduceLeDiff, Nat.reduceBEq, Nat.reduceBNe, Nat.reduceEqDiff, Nat.reduceShiftLeft, Nat.reduceShiftRight, Nat.reduceOr, Nat.reduceAnd, Nat.reducePow, Nat.reduceSucc, Int.reduceToNat, Int.reduceAdd, Int.reduceSub, Int.reduceMul, Int.reduceNeg, Int.reduceTMod, Int.reduceTDiv, Int.reduceDiv, Int.reduceMod, Int.reducePow, Int.reduceLT, Int.reduceLE, Int.reduceEq, Int.reduceBEq, Int.reduceBNe, Int.reduceNe, reduceIte, reduceCtorEq, Int.cast_ofNat_Int, implies_true, forall_const, e75, haw]
  · cases hm : shrt m.length
    · rw [ent10]
      have e75 := c75 b l
      have e76 := c76 c m
      rw [hl] at e75
      rw [hm] at e76
      simp (maxSteps := 1000000) -implicitDefEqProofs only [go_sem, Nat.reduceAdd, Nat.reduceMul, Nat.reduceSub, Nat.reduceDiv, Nat.reduceMod, Nat.reduceLT, Nat.reduceLeDiff, Nat.reduceBEq, Nat.reduceBNe, Nat.reduceEqDiff, Nat.reduceShiftLeft, Nat.reduceShiftRight, Nat.reduceOr, Nat.reduceAnd, Nat.reducePow, Nat.reduceSucc, Int.reduceToNat, Int.reduceAdd, Int.reduceSub, Int.reduceMul, Int.reduceNeg, Int.reduceTMod, Int.reduceTDiv, Int.reduceDiv, Int.reduceMod, Int.reducePow, Int.reduceLT, Int.reduceLE, Int.reduceEq, Int.reduceBEq, Int.reduceBNe, Int.reduceNe, reduceIte, reduceCtorEq, Int.cast_ofNat_Int, implies_true, forall_const, e75, e76, haw]
    · cases h1 : (ckN l n sx sy m == 0)
      · exact c10a haw b c l n sx sy m hl hm h1
      · exact c10b haw b c l n sx sy m hl hm h1
end Go.Den.FaT
