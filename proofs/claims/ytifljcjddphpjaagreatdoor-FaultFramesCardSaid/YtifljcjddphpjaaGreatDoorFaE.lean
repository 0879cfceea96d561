import Derived.Test.YtifljcjddphpjaaGreatDoorFaDa
import Derived.Test.YtifljcjddphpjaaGreatDoorFaDb
import Derived.Test.YtifljcjddphpjaaGreatDoorFaDc
import Derived.Test.YtifljcjddphpjaaGreatDoorFaDd
set_option linter.all false
namespace Go.Den.FaT
open Go Go.Proofs Go.Den
set_option linter.unusedVariables false
set_option linter.unusedSimpArgs false
set_option maxRecDepth 100000
theorem c9 (haw : (lim T).call 16 [] [] 0 [] = some (.bool true, [], 0, [])) (n sx sy x y : Int) (b c : Bool) (l m : List (Int × Int)) :
    (lim T).call 9 [.agg [.int .i64 n, .int .i64 sx, .int .i64 sy], .agg [.int .i64 x, .int .i64 y], .agg [.sl b 2 (l.map fun p => .agg [.int .i64 p.1, .int .i64 p.2]), .sl c 2 (m.map fun p => .agg [.int .i64 p.1, .int .i64 p.2])]] [] 0 [] = some (.bool true, [], 0, []) := by
  cases hl : decide (9 < (l.length : Int))
  · cases hm : decide (9 < (m.length : Int))
    · cases h1 : (fnz [ckF n sx sy, ckP x y] == 0)
      · cases h2 : (ckM l m == 0)
        · exact c9a haw n sx sy x y b c l m hl hm h1 h2
        · exact c9b haw n sx sy x y b c l m hl hm h1 h2
      · cases h2 : (ckM l m == 0)
        · exact c9c haw n sx sy x y b c l m hl hm h1 h2
        · exact c9d haw n sx sy x y b c l m hl hm h1 h2
    · rw [ent9]; simp (maxSteps := 1000000) -implicitDefEqProofs only [go_sem, Nat.reduceAdd, Nat.reduceMul, Nat.reduceSub, Nat.reduceDiv, Nat.reduceMod, Nat.reduceLT, Nat.reduceLeDiff, Nat.reduceBEq, Nat.reduceBNe, Nat.reduceEqDiff, Nat.reduceShiftLeft, Nat.reduceShiftRight, Nat.reduceOr, Nat.reduceAnd, Nat.reducePow, Nat.reduceSucc, Int.reduceToNat, Int.reduceAdd, Int.reduceSub, Int.reduceMul, Int.reduceNeg, Int.reduceTMod, Int.reduceTDiv, Int.reduceDiv, Int.reduceMod, Int.reducePow, Int.reduceLT, Int.reduceLE, Int.reduceEq, Int.reduceBEq, Int.reduceBNe, Int.reduceNe, reduceIte, reduceCtorEq, Int.cast_ofNat_Int, implies_true, forall_const, hl, hm, haw]
  · rw [ent9]; simp (maxSteps := 1000000) -implicitDefEqProofs only [go_sem, Nat.reduceAdd, Nat.reduceMul, Nat.reduceSub, Nat.reduceDiv, Nat.reduceMod, Nat.reduceLT, Nat.reduceLeDiff, Nat.reduceBEq, Nat.reduceBNe, Nat.reduceEqDiff, Nat.reduceShiftLeft, Nat.reduceShiftRight, Nat.reduceOr, Nat.reduceAnd, Nat.reducePow, Nat.reduceSucc, Int.reduceToNat, Int.reduceAdd, Int.reduceSub, Int.reduceMul, Int.reduceNeg, Int.reduceTMod, Int.reduceTDiv, Int.reduceDiv, Int.reduceMod, Int.reducePow, Int.reduceLT, Int.reduceLE, Int.reduceEq, Int.reduceBEq, Int.reduceBNe, Int.reduceNe, reduceIte, reduceCtorEq, Int.cast_ofNat_Int, implies_true, forall_const, hl, haw]
end Go.Den.FaT
