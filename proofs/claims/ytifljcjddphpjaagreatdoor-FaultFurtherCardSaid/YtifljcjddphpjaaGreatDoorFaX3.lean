import Derived.Test.YtifljcjddphpjaaGreatDoorFaX2
set_option linter.all false
set_option maxHeartbeats 8000000
set_option maxRecDepth 100000
namespace Go.Den.FaU
open Go Go.Proofs Go.Den Go.Den.FaT
theorem t52_2 (vb cb b1 b2 : Bool) (no : Int) (a b : Rz) {C : List Cx} (hC : C.length ≤ 6) : S52 vb cb b1 b2 no [a, b] C := by
  refine len6 hC ?_ ?_ ?_ ?_ ?_ ?_ ?_
  all_goals
    intros
    intro hR hC
    simp only [List.forall_mem_cons] at hR hC
    simp only [List.map_cons, List.map_nil, Rz.i, Rz.a, Rz.o, Cx.i, Cx.a, Cx.o]
    rw [FaU.ent52]
    simp -implicitDefEqProofs only [go_sem, simprocAttr, FaU.ent88, FaU.ent172, nums, row8, *]
    repeat (rw [loopEq]; simp -implicitDefEqProofs only [go_sem, simprocAttr, FaU.ent88, FaU.ent172, nums, row8, *])
theorem t52_3 (vb cb b1 b2 : Bool) (no : Int) (a b c : Rz) {C : List Cx} (hC : C.length ≤ 6) : S52 vb cb b1 b2 no [a, b, c] C := by
  refine len6 hC ?_ ?_ ?_ ?_ ?_ ?_ ?_
  all_goals
    intros
    intro hR hC
    simp only [List.forall_mem_cons] at hR hC
    simp only [List.map_cons, List.map_nil, Rz.i, Rz.a, Rz.o, Cx.i, Cx.a, Cx.o]
    rw [FaU.ent52]
    simp -implicitDefEqProofs only [go_sem, simprocAttr, FaU.ent88, FaU.ent172, nums, row8, *]
    repeat (rw [loopEq]; simp -implicitDefEqProofs only [go_sem, simprocAttr, FaU.ent88, FaU.ent172, nums, row8, *])
theorem t52_4 (vb cb b1 b2 : Bool) (no : Int) (a b c d : Rz) {C : List Cx} (hC : C.length ≤ 6) : S52 vb cb b1 b2 no [a, b, c, d] C := by
  refine len6 hC ?_ ?_ ?_ ?_ ?_ ?_ ?_
  all_goals
    intros
    intro hR hC
    simp only [List.forall_mem_cons] at hR hC
    simp only [List.map_cons, List.map_nil, Rz.i, Rz.a, Rz.o, Cx.i, Cx.a, Cx.o]
    rw [FaU.ent52]
    simp -implicitDefEqProofs only [go_sem, simprocAttr, FaU.ent88, FaU.ent172, nums, row8, *]
    repeat (rw [loopEq]; simp -implicitDefEqProofs only [go_sem, simprocAttr, FaU.ent88, FaU.ent172, nums, row8, *])
end Go.Den.FaU
