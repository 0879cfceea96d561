/-
  DERIVED. GIVEN WITH THE SEED: THE CARDS: each row of YtjiidembdmfikaaGreatDoorRows.lean that lists a variable, with what it lists TIED to the program's text (the seventh form; the later family's looks); each row that meets fmt, with fmt's text TOLD by the authors' own Lean function (tested against real Go, not proved from fmt's source: count such statements apart). THE CARD IS WHAT COUNTS. Prove the row's statement (the work); the ties are given (YtjiidembdmfikaaGreatDoorTie.lean); close each card by the builder's one call (the guide's Derived/Test/ToyasCard.lean, 'card_holds'). Laid BY PROGRAM, IN A SANDBOX (cutbox-door.mjs). By AI agents, Wed Nov 11 2026. No macro, syntax, notation, axiom, sorry.
-/
import Derived.Test.YtjiidembdmfikaaGreatDoorRows
import GoSem.ClaimSeven
namespace Go.Proofs.YtjiidembdmfikaaGreatDoor
namespace Rows

/-- THE TIED CARD OF 'combinertop.TopGlandNamed'. -/
def topGlandNamedCard : Claim7 := { stood := { row := topGlandNamedRow, standIns := [], harness := (true, "4e4bd954051256aa583db218789ebb6e167597a9280b80de5f88744b53171b8c"), looks := false }, kinds := [], alts := [], laidByText := true, laidKinds := [.funcsDeep], laidTests := true, laidLooks := .later }
def TopGlandNamedCardSaid : Prop := Claim7.holds Tryz.pinned (.plain (OpenSpec.ofChange topGlandNamedSpec)) topGlandNamedCard

/-- THE TIED CARD OF 'combinertop.TopGlandShapes'. -/
def topGlandShapesCard : Claim7 := { stood := { row := topGlandShapesRow, standIns := [], harness := (true, "4e4bd954051256aa583db218789ebb6e167597a9280b80de5f88744b53171b8c"), looks := false }, kinds := [], alts := [], laidByText := true, laidKinds := [.funcsDeep], laidTests := true, laidLooks := .later }
def TopGlandShapesCardSaid : Prop := Claim7.holds Tryz.pinned (.plain (OpenSpec.ofChange topGlandShapesSpec)) topGlandShapesCard

/-- THE TIED CARD OF 'combinertop.TopGlandShadows'. -/
def topGlandShadowsCard : Claim7 := { stood := { row := topGlandShadowsRow, standIns := [], harness := (true, "4e4bd954051256aa583db218789ebb6e167597a9280b80de5f88744b53171b8c"), looks := false }, kinds := [], alts := [], laidByText := true, laidKinds := [.funcsDeep], laidTests := true, laidLooks := .later }
def TopGlandShadowsCardSaid : Prop := Claim7.holds Tryz.pinned (.plain (OpenSpec.ofChange topGlandShadowsSpec)) topGlandShadowsCard

/-- THE TIED CARD OF 'combinertop.TopGlandSeen'. -/
def topGlandSeenCard : Claim7 := { stood := { row := topGlandSeenRow, standIns := [], harness := (true, "4e4bd954051256aa583db218789ebb6e167597a9280b80de5f88744b53171b8c"), looks := false }, kinds := [], alts := [], laidByText := true, laidKinds := [.funcsDeep, .funcs], laidTests := true, laidLooks := .later }
def TopGlandSeenCardSaid : Prop := Claim7.holds Tryz.pinned (.plain (OpenSpec.ofChange topGlandSeenSpec)) topGlandSeenCard

/-- THE SECOND FORM's CARD OF 'combinertop.TopGlandNamed'. -/
def topGlandNamedUptoCard : Claim7 := { stood := { row := topGlandNamedUptoRow, standIns := [], harness := (true, "4e4bd954051256aa583db218789ebb6e167597a9280b80de5f88744b53171b8c"), looks := false }, kinds := [], alts := [], laidByText := true, laidKinds := [.funcsDeep], laidTests := true, laidLooks := .later }
def TopGlandNamedUptoCardSaid : Prop := Claim7.holds Tryz.pinned (.plain (OpenSpec.upto topGlandNamedSpec)) topGlandNamedUptoCard

/-- THE SECOND FORM's CARD OF 'combinertop.TopGlandShapes'. -/
def topGlandShapesUptoCard : Claim7 := { stood := { row := topGlandShapesUptoRow, standIns := [], harness := (true, "4e4bd954051256aa583db218789ebb6e167597a9280b80de5f88744b53171b8c"), looks := false }, kinds := [], alts := [], laidByText := true, laidKinds := [.funcsDeep], laidTests := true, laidLooks := .later }
def TopGlandShapesUptoCardSaid : Prop := Claim7.holds Tryz.pinned (.plain (OpenSpec.upto topGlandShapesSpec)) topGlandShapesUptoCard

/-- THE SECOND FORM's CARD OF 'combinertop.TopGlandShadows'. -/
def topGlandShadowsUptoCard : Claim7 := { stood := { row := topGlandShadowsUptoRow, standIns := [], harness := (true, "4e4bd954051256aa583db218789ebb6e167597a9280b80de5f88744b53171b8c"), looks := false }, kinds := [], alts := [], laidByText := true, laidKinds := [.funcsDeep], laidTests := true, laidLooks := .later }
def TopGlandShadowsUptoCardSaid : Prop := Claim7.holds Tryz.pinned (.plain (OpenSpec.upto topGlandShadowsSpec)) topGlandShadowsUptoCard

/-- THE SECOND FORM's CARD OF 'combinertop.TopGlandSeen'. -/
def topGlandSeenUptoCard : Claim7 := { stood := { row := topGlandSeenUptoRow, standIns := [], harness := (true, "4e4bd954051256aa583db218789ebb6e167597a9280b80de5f88744b53171b8c"), looks := false }, kinds := [], alts := [], laidByText := true, laidKinds := [.funcsDeep, .funcs], laidTests := true, laidLooks := .later }
def TopGlandSeenUptoCardSaid : Prop := Claim7.holds Tryz.pinned (.plain (OpenSpec.upto topGlandSeenSpec)) topGlandSeenUptoCard
end Rows
end Go.Proofs.YtjiidembdmfikaaGreatDoor
