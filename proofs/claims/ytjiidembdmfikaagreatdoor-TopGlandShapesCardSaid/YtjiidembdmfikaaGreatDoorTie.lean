/-
  DERIVED. GIVEN WITH THE SEED: THE PROGRAM's TIES (one call each: nine closed facts by the kernel) AND EACH ROW's TIE, after the 31st guide's Derived/Test/Toyas{Tie, Card}.lean. No idea stands in it: it is a product of the set-up. Laid BY PROGRAM, IN A SANDBOX (cutbox-door.mjs). By AI agents, Wed Nov 11 2026. No macro, syntax, notation, axiom, sorry.
-/
import Derived.Test.YtjiidembdmfikaaGreatDoorRows
import Derived.LaidByTextLater
import Derived.SevenTiedAt
import Derived.LaidSub
import Derived.LaidOnce
namespace Go.Proofs.YtjiidembdmfikaaGreatDoor
open Go
set_option maxRecDepth 100000
theorem seatTie1 : Tryz.prog.laidByTextLater [("combiner/curve.words", Rows.laid_combiner_curve_words), ("combiner/fault.turns", Rows.laid_combiner_fault_turns)] [.funcsDeep, .funcs] true :=
  Program.laidByTextLater_by_one 28 8 2 (by kernel_rfl) (by kernel_rfl) (by kernel_rfl) (by kernel_rfl) (by kernel_rfl) (by kernel_rfl) (fun _ _ => by kernel_rfl)
theorem noOwnUnsafe : Tryz.pinned.checked.prog.headLifts.contains "ownunsafe" = false := by kernel_rfl
theorem tie : Tryz.prog.laidByTextLater [("combiner/curve.words", Rows.laid_combiner_curve_words)] [.funcsDeep] true :=
  Program.laidByTextLater.sub seatTie1 ["combiner/curve.words"] (by kernel_rfl) (by kernel_rfl)
theorem topGlandNamed_row_tie : Rows.topGlandNamedRow.laidByTextAt .later Tryz.pinned [.funcsDeep] true :=
  OpenClaim.laidByTextAt_later rfl rfl tie noOwnUnsafe
theorem topGlandShapes_row_tie : Rows.topGlandShapesRow.laidByTextAt .later Tryz.pinned [.funcsDeep] true :=
  OpenClaim.laidByTextAt_later rfl rfl tie noOwnUnsafe
theorem topGlandShadows_row_tie : Rows.topGlandShadowsRow.laidByTextAt .later Tryz.pinned [.funcsDeep] true :=
  OpenClaim.laidByTextAt_later rfl rfl tie noOwnUnsafe
theorem tie2 : Tryz.prog.laidByTextLater [("combiner/curve.words", Rows.laid_combiner_curve_words), ("combiner/fault.turns", Rows.laid_combiner_fault_turns)] [.funcsDeep, .funcs] true :=
  Program.laidByTextLater.sub seatTie1 ["combiner/curve.words", "combiner/fault.turns"] (by kernel_rfl) (by kernel_rfl)
theorem topGlandSeen_row_tie : Rows.topGlandSeenRow.laidByTextAt .later Tryz.pinned [.funcsDeep, .funcs] true :=
  OpenClaim.laidByTextAt_later rfl rfl tie2 noOwnUnsafe
theorem topGlandNamedUpto_row_tie : Rows.topGlandNamedUptoRow.laidByTextAt .later Tryz.pinned [.funcsDeep] true :=
  OpenClaim.laidByTextAt_later rfl rfl tie noOwnUnsafe
theorem topGlandShapesUpto_row_tie : Rows.topGlandShapesUptoRow.laidByTextAt .later Tryz.pinned [.funcsDeep] true :=
  OpenClaim.laidByTextAt_later rfl rfl tie noOwnUnsafe
theorem topGlandShadowsUpto_row_tie : Rows.topGlandShadowsUptoRow.laidByTextAt .later Tryz.pinned [.funcsDeep] true :=
  OpenClaim.laidByTextAt_later rfl rfl tie noOwnUnsafe
theorem topGlandSeenUpto_row_tie : Rows.topGlandSeenUptoRow.laidByTextAt .later Tryz.pinned [.funcsDeep, .funcs] true :=
  OpenClaim.laidByTextAt_later rfl rfl tie2 noOwnUnsafe
end Go.Proofs.YtjiidembdmfikaaGreatDoor
