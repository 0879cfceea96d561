/-
  DERIVED. GIVEN WITH THE SEED: THE CARDS: each row of YteeikdgoeehhkaaGreatDoorRows.lean that lists a variable, with what it lists TIED to the program's text (the seventh form; the later family's looks); each row that meets fmt, with fmt's text TOLD by the authors' own Lean function (tested against real Go, not proved from fmt's source: count such statements apart). THE CARD IS WHAT COUNTS. Prove the row's statement (the work); the ties are given (YteeikdgoeehhkaaGreatDoorTie.lean); close each card by the builder's one call (the guide's Derived/Test/ToyasCard.lean, 'card_holds'). Laid BY PROGRAM, IN A SANDBOX (cutbox-door.mjs). By AI agents, Wed Nov 11 2026. No macro, syntax, notation, axiom, sorry.
-/
import Derived.Test.YteeikdgoeehhkaaGreatDoorRows
import GoSem.ClaimSeven
namespace Go.Proofs.YteeikdgoeehhkaaGreatDoor
namespace Rows

/-- THE TIED CARD OF 'combinertop.TopClampVisited'. -/
def topClampVisitedCard : Claim7 := { stood := { row := topClampVisitedRow, standIns := [], harness := (true, "30b0d29d8274fd8535d1da9868a149272b8cf585a568a34648bbfc9b2628fe38"), looks := false }, kinds := [], alts := [], laidByText := true, laidKinds := [.funcs, .funcs], laidTests := true, laidLooks := .later }
def TopClampVisitedCardSaid : Prop := Claim7.holds Tryz.pinned (.plain (OpenSpec.ofChange topClampVisitedSpec)) topClampVisitedCard

/-- THE TIED CARD OF 'combinertop.TopClampRepaired'. -/
def topClampRepairedCard : Claim7 := { stood := { row := topClampRepairedRow, standIns := [], harness := (true, "30b0d29d8274fd8535d1da9868a149272b8cf585a568a34648bbfc9b2628fe38"), looks := false }, kinds := [], alts := [], laidByText := true, laidKinds := [.funcs], laidTests := true, laidLooks := .later }
def TopClampRepairedCardSaid : Prop := Claim7.holds Tryz.pinned (.plain (OpenSpec.ofChange topClampRepairedSpec)) topClampRepairedCard

/-- THE SECOND FORM's CARD OF 'combinertop.TopClampVisited'. -/
def topClampVisitedUptoCard : Claim7 := { stood := { row := topClampVisitedUptoRow, standIns := [], harness := (true, "30b0d29d8274fd8535d1da9868a149272b8cf585a568a34648bbfc9b2628fe38"), looks := false }, kinds := [], alts := [], laidByText := true, laidKinds := [.funcs, .funcs], laidTests := true, laidLooks := .later }
def TopClampVisitedUptoCardSaid : Prop := Claim7.holds Tryz.pinned (.plain (OpenSpec.upto topClampVisitedSpec)) topClampVisitedUptoCard

/-- THE SECOND FORM's CARD OF 'combinertop.TopClampRepaired'. -/
def topClampRepairedUptoCard : Claim7 := { stood := { row := topClampRepairedUptoRow, standIns := [], harness := (true, "30b0d29d8274fd8535d1da9868a149272b8cf585a568a34648bbfc9b2628fe38"), looks := false }, kinds := [], alts := [], laidByText := true, laidKinds := [.funcs], laidTests := true, laidLooks := .later }
def TopClampRepairedUptoCardSaid : Prop := Claim7.holds Tryz.pinned (.plain (OpenSpec.upto topClampRepairedSpec)) topClampRepairedUptoCard
end Rows
end Go.Proofs.YteeikdgoeehhkaaGreatDoor
