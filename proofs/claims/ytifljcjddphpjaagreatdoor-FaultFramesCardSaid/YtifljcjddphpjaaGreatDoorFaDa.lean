import Derived.Test.YtifljcjddphpjaaGreatDoorFaC
set_option linter.all false
namespace Go.Den.FaT
open Go Go.Proofs Go.Den
set_option linter.unusedVariables false
set_option linter.unusedSimpArgs false
set_option maxRecDepth 100000
set_option maxHeartbeats 8000000 in
theorem c9a (haw : (lim T).call 16 [] [] 0 [] = some (.bool true, [], 0, [])) (n sx sy x y : Int) (b c : Bool) (l m : List (Int × Int)) (hl : decide (9 < (l.length : Int)) = false) (hm : decide (9 < (m.length : Int)) = false)
    (h1 : (fnz [ckF n sx sy, ckP x y] == 0) = false) (h2 : (ckM l m == 0) = false) :
    (lim T).call 9 [.agg [.int .i64 n, .int .i64 sx, .int .i64 sy], .agg [.int .i64 x, .int .i64 y], .agg [.sl b 2 (l.map fun p => .agg [.int .i64 p.1, .int .i64 p.2]), .sl c 2 (m.map fun p => .agg [.int .i64 p.1, .int .i64 p.2])]] [] 0 [] = some (.bool true, [], 0, []) := by
  rw [ent9]
  have hl' : l.length < 1000 := by simp at hl; omega
  have hm' : m.length < 1000 := by simp at hm; omega
  have e66 := c66 n sx sy x y
  have e67 := c67 n sx sy x y
  have e68 := c68 true true l m hl' hm'
  have e73 := c73 b c l m (by omega) (by omega)
  rw [ckM_eq] at e73
  have e30 := c30_2 true (ckF n sx sy) (ckP x y)
  have e47 := c47 b l (by omega)
  have e47' := c47 c m (by omega)
  have hcr := carr_ref (n := n) (sx := sx) (sy := sy) (x := x) (y := y)
  have hfr := fun h => c74 b c l m hl' (ckM_ok (l := l) (m := m) h).2.2.1 (ckM_ok h).2.2.2.1 (ckM_ok h).2.2.2.2
  have e71 := fun h => c71 n sx sy x y h
  have e72 := fun h => c72 n sx sy x y h
  generalize hE : fnz [ckF n sx sy, ckP x y] = E at e66 e67 e30 hcr h1
  generalize hM : ckM l m = M at e68 e73 hfr h2
  have hEE : (E == E) = true := by simp
  have hMM : (M == M) = true := by simp
  have h1' : ¬ E = 0 := by simpa using h1
  rw [if_neg h1'] at e66 e67
  have h2' : ¬ M = 0 := by simpa using h2
  rw [if_neg h2'] at e68
  have e24 := c24z false [] M M (by simp) h2'
  simp only [List.map_nil] at e24
  simp (maxSteps := 1000000) -implicitDefEqProofs only [go_sem, Nat.reduceAdd, Nat.reduceMul, Nat.reduceSub, Nat.reduceDiv, Nat.reduceMod, Nat.reduceLT, Nat.reduceLeDiff, Nat.reduceBEq, Nat.reduceBNe, Nat.reduceEqDiff, Nat.reduceShiftLeft, Nat.reduceShiftRight, Nat.reduceOr, Nat.reduceAnd, Nat.reducePow, Nat.reduceSucc, Int.reduceToNat, Int.reduceAdd, Int.reduceSub, Int.reduceMul, Int.reduceNeg, Int.reduceTMod, Int.reduceTDiv, Int.reduceDiv, Int.reduceMod, Int.reducePow, Int.reduceLT, Int.reduceLE, Int.reduceEq, Int.reduceBEq, Int.reduceBNe, Int.reduceNe, reduceIte, reduceCtorEq, Int.cast_ofNat_Int, implies_true, forall_const, hl, hm, e66, e67, e68, e73, e30, c69, c70, h1, h2, haw, e47, e47', e24]
end Go.Den.FaT
