/-
  DERIVED. GIVEN WITH THE SEED: THE PROGRAM's TIES (one call each: nine closed facts by the kernel) AND EACH ROW's TIE, after the 31st guide's Derived/Test/Toyas{Tie, Card}.lean. No idea stands in it: it is a product of the set-up. Laid BY PROGRAM, IN A SANDBOX (cutbox-door.mjs). By AI agents, Wed Nov 11 2026. No macro, syntax, notation, axiom, sorry.
-/
import Derived.Test.YteeikdgoeehhkaaGreatDoorRows
import Derived.LaidByTextLater
import Derived.SevenTiedAt
import Derived.LaidSub
import Derived.LaidOnce
namespace Go.Proofs.YteeikdgoeehhkaaGreatDoor
open Go
set_option maxRecDepth 100000
theorem seatTie1 : Tryz.prog.laidByTextLater [("combiner/fault.turns", Rows.laid_combiner_fault_turns), ("combiner/wash.criteria", Rows.laid_combiner_wash_criteria)] [.funcs, .funcs] true :=
  Program.laidByTextLater_by_one 26 8 2 (by kernel_rfl) (by kernel_rfl) (by kernel_rfl) (by kernel_rfl) (by kernel_rfl) (by kernel_rfl) (fun _ _ => by kernel_rfl)
theorem noOwnUnsafe : Tryz.pinned.checked.prog.headLifts.contains "ownunsafe" = false := by kernel_rfl
theorem tie : Tryz.prog.laidByTextLater [("combiner/fault.turns", Rows.laid_combiner_fault_turns), ("combiner/wash.criteria", Rows.laid_combiner_wash_criteria)] [.funcs, .funcs] true :=
  Program.laidByTextLater.sub seatTie1 ["combiner/fault.turns", "combiner/wash.criteria"] (by kernel_rfl) (by kernel_rfl)
theorem topClampVisited_row_tie : Rows.topClampVisitedRow.laidByTextAt .later Tryz.pinned [.funcs, .funcs] true :=
  OpenClaim.laidByTextAt_later rfl rfl tie noOwnUnsafe
theorem tie2 : Tryz.prog.laidByTextLater [("combiner/wash.criteria", Rows.laid_combiner_wash_criteria)] [.funcs] true :=
  Program.laidByTextLater.sub seatTie1 ["combiner/wash.criteria"] (by kernel_rfl) (by kernel_rfl)
theorem topClampRepaired_row_tie : Rows.topClampRepairedRow.laidByTextAt .later Tryz.pinned [.funcs] true :=
  OpenClaim.laidByTextAt_later rfl rfl tie2 noOwnUnsafe
theorem topClampVisitedUpto_row_tie : Rows.topClampVisitedUptoRow.laidByTextAt .later Tryz.pinned [.funcs, .funcs] true :=
  OpenClaim.laidByTextAt_later rfl rfl tie noOwnUnsafe
theorem topClampRepairedUpto_row_tie : Rows.topClampRepairedUptoRow.laidByTextAt .later Tryz.pinned [.funcs] true :=
  OpenClaim.laidByTextAt_later rfl rfl tie2 noOwnUnsafe
end Go.Proofs.YteeikdgoeehhkaaGreatDoor
