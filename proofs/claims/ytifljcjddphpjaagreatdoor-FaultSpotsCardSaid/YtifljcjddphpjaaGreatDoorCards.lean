/-
  DERIVED. GIVEN WITH THE SEED: THE CARDS: each row of YtifljcjddphpjaaGreatDoorRows.lean that lists a variable, with what it lists TIED to the program's text (the seventh form; the later family's looks); each row that meets fmt, with fmt's text TOLD by the authors' own Lean function (tested against real Go, not proved from fmt's source: count such statements apart). THE CARD IS WHAT COUNTS. Prove the row's statement (the work); the ties are given (YtifljcjddphpjaaGreatDoorTie.lean); close each card by the builder's one call (the guide's Derived/Test/ToyasCard.lean, 'card_holds'). Laid BY PROGRAM, IN A SANDBOX (cutbox-door.mjs). By AI agents, Wed Nov 11 2026. No macro, syntax, notation, axiom, sorry.
-/
import Derived.Test.YtifljcjddphpjaaGreatDoorRows
import GoSem.ClaimSeven
namespace Go.Proofs.YtifljcjddphpjaaGreatDoor
namespace Rows

/-- THE TIED CARD OF 'combinerlaw07.FaultParks'. -/
def faultParksCard : Claim7 := { stood := { row := faultParksRow, standIns := [], harness := (true, "87ed971a46d143ac664404183cb639de330058d80f7d2e21f7cd3d2d1ce3f35c"), looks := false }, kinds := [], alts := [], laidByText := true, laidKinds := [.data, .data, .data, .funcs], laidTests := true, laidLooks := .later }
def FaultParksCardSaid : Prop := Claim7.holds Tryz.pinned (.plain (OpenSpec.ofChange faultParksSpec)) faultParksCard

/-- THE TIED CARD OF 'combinerlaw07.FaultSets'. -/
def faultSetsCard : Claim7 := { stood := { row := faultSetsRow, standIns := [], harness := (true, "87ed971a46d143ac664404183cb639de330058d80f7d2e21f7cd3d2d1ce3f35c"), looks := false }, kinds := [], alts := [], laidByText := true, laidKinds := [.data, .data, .data, .funcs], laidTests := true, laidLooks := .later }
def FaultSetsCardSaid : Prop := Claim7.holds Tryz.pinned (.plain (OpenSpec.ofChange faultSetsSpec)) faultSetsCard

/-- THE TIED CARD OF 'combinerlaw07.FaultLeast'. -/
def faultLeastCard : Claim7 := { stood := { row := faultLeastRow, standIns := [], harness := (true, "87ed971a46d143ac664404183cb639de330058d80f7d2e21f7cd3d2d1ce3f35c"), looks := false }, kinds := [], alts := [], laidByText := true, laidKinds := [.data, .data, .data, .funcs], laidTests := true, laidLooks := .later }
def FaultLeastCardSaid : Prop := Claim7.holds Tryz.pinned (.plain (OpenSpec.ofChange faultLeastSpec)) faultLeastCard

/-- THE TIED CARD OF 'combinerlaw07.FaultProofs'. -/
def faultProofsCard : Claim7 := { stood := { row := faultProofsRow, standIns := [], harness := (true, "87ed971a46d143ac664404183cb639de330058d80f7d2e21f7cd3d2d1ce3f35c"), looks := false }, kinds := [], alts := [], laidByText := true, laidKinds := [.data, .data, .data, .funcs], laidTests := true, laidLooks := .later }
def FaultProofsCardSaid : Prop := Claim7.holds Tryz.pinned (.plain (OpenSpec.ofChange faultProofsSpec)) faultProofsCard

/-- THE TIED CARD OF 'combinerlaw07.FaultFurther'. -/
def faultFurtherCard : Claim7 := { stood := { row := faultFurtherRow, standIns := [], harness := (true, "87ed971a46d143ac664404183cb639de330058d80f7d2e21f7cd3d2d1ce3f35c"), looks := false }, kinds := [], alts := [], laidByText := true, laidKinds := [.data, .data, .data, .funcs], laidTests := true, laidLooks := .later }
def FaultFurtherCardSaid : Prop := Claim7.holds Tryz.pinned (.plain (OpenSpec.ofChange faultFurtherSpec)) faultFurtherCard

/-- THE TIED CARD OF 'combinerlaw07.FaultPictures'. -/
def faultPicturesCard : Claim7 := { stood := { row := faultPicturesRow, standIns := [], harness := (true, "87ed971a46d143ac664404183cb639de330058d80f7d2e21f7cd3d2d1ce3f35c"), looks := false }, kinds := [], alts := [], laidByText := true, laidKinds := [.data, .data, .data, .funcs], laidTests := true, laidLooks := .later }
def FaultPicturesCardSaid : Prop := Claim7.holds Tryz.pinned (.plain (OpenSpec.ofChange faultPicturesSpec)) faultPicturesCard

/-- THE TIED CARD OF 'combinerlaw07.FaultFrames'. -/
def faultFramesCard : Claim7 := { stood := { row := faultFramesRow, standIns := [], harness := (true, "87ed971a46d143ac664404183cb639de330058d80f7d2e21f7cd3d2d1ce3f35c"), looks := false }, kinds := [], alts := [], laidByText := true, laidKinds := [.data, .data, .data, .funcs], laidTests := true, laidLooks := .later }
def FaultFramesCardSaid : Prop := Claim7.holds Tryz.pinned (.plain (OpenSpec.ofChange faultFramesSpec)) faultFramesCard

/-- THE TIED CARD OF 'combinerlaw07.FaultModules'. -/
def faultModulesCard : Claim7 := { stood := { row := faultModulesRow, standIns := [], harness := (true, "87ed971a46d143ac664404183cb639de330058d80f7d2e21f7cd3d2d1ce3f35c"), looks := false }, kinds := [], alts := [], laidByText := true, laidKinds := [.data, .data, .data, .funcs], laidTests := true, laidLooks := .later }
def FaultModulesCardSaid : Prop := Claim7.holds Tryz.pinned (.plain (OpenSpec.ofChange faultModulesSpec)) faultModulesCard

/-- THE TIED CARD OF 'combinerlaw07.FaultMade'. -/
def faultMadeCard : Claim7 := { stood := { row := faultMadeRow, standIns := [], harness := (true, "87ed971a46d143ac664404183cb639de330058d80f7d2e21f7cd3d2d1ce3f35c"), looks := false }, kinds := [], alts := [], laidByText := true, laidKinds := [.data, .data, .data, .funcs], laidTests := true, laidLooks := .later }
def FaultMadeCardSaid : Prop := Claim7.holds Tryz.pinned (.plain (OpenSpec.ofChange faultMadeSpec)) faultMadeCard

/-- THE TIED CARD OF 'combinerlaw07.FaultSpots'. -/
def faultSpotsCard : Claim7 := { stood := { row := faultSpotsRow, standIns := [], harness := (true, "87ed971a46d143ac664404183cb639de330058d80f7d2e21f7cd3d2d1ce3f35c"), looks := false }, kinds := [], alts := [], laidByText := true, laidKinds := [.data, .data, .data, .funcs], laidTests := true, laidLooks := .later }
def FaultSpotsCardSaid : Prop := Claim7.holds Tryz.pinned (.plain (OpenSpec.ofChange faultSpotsSpec)) faultSpotsCard

/-- THE TIED CARD OF 'combinerlaw07.FaultStrings'. -/
def faultStringsCard : Claim7 := { stood := { row := faultStringsRow, standIns := [], harness := (true, "87ed971a46d143ac664404183cb639de330058d80f7d2e21f7cd3d2d1ce3f35c"), looks := false }, kinds := [], alts := [], laidByText := true, laidKinds := [.data, .data, .data, .data, .funcs, .pinned], laidTests := true, laidLooks := .later }
def FaultStringsCardSaid : Prop := Claim7.holds Tryz.pinned (.plain (OpenSpec.ofChange faultStringsSpec)) faultStringsCard

/-- THE TIED CARD OF 'combinerlaw07.FaultNames'. -/
def faultNamesCard : Claim7 := { stood := { row := faultNamesRow, standIns := [], harness := (true, "87ed971a46d143ac664404183cb639de330058d80f7d2e21f7cd3d2d1ce3f35c"), looks := false }, kinds := [], alts := [], laidByText := true, laidKinds := [.data, .data, .data, .data, .funcs, .pinned], laidTests := true, laidLooks := .later }
def FaultNamesCardSaid : Prop := Claim7.holds Tryz.pinned (.plain (OpenSpec.ofChange faultNamesSpec)) faultNamesCard

/-- THE SECOND FORM's CARD OF 'combinerlaw07.FaultParks'. -/
def faultParksUptoCard : Claim7 := { stood := { row := faultParksUptoRow, standIns := [], harness := (true, "87ed971a46d143ac664404183cb639de330058d80f7d2e21f7cd3d2d1ce3f35c"), looks := false }, kinds := [], alts := [], laidByText := true, laidKinds := [.data, .data, .data, .funcs], laidTests := true, laidLooks := .later }
def FaultParksUptoCardSaid : Prop := Claim7.holds Tryz.pinned (.plain (OpenSpec.upto faultParksSpec)) faultParksUptoCard

/-- THE SECOND FORM's CARD OF 'combinerlaw07.FaultSets'. -/
def faultSetsUptoCard : Claim7 := { stood := { row := faultSetsUptoRow, standIns := [], harness := (true, "87ed971a46d143ac664404183cb639de330058d80f7d2e21f7cd3d2d1ce3f35c"), looks := false }, kinds := [], alts := [], laidByText := true, laidKinds := [.data, .data, .data, .funcs], laidTests := true, laidLooks := .later }
def FaultSetsUptoCardSaid : Prop := Claim7.holds Tryz.pinned (.plain (OpenSpec.upto faultSetsSpec)) faultSetsUptoCard

/-- THE SECOND FORM's CARD OF 'combinerlaw07.FaultLeast'. -/
def faultLeastUptoCard : Claim7 := { stood := { row := faultLeastUptoRow, standIns := [], harness := (true, "87ed971a46d143ac664404183cb639de330058d80f7d2e21f7cd3d2d1ce3f35c"), looks := false }, kinds := [], alts := [], laidByText := true, laidKinds := [.data, .data, .data, .funcs], laidTests := true, laidLooks := .later }
def FaultLeastUptoCardSaid : Prop := Claim7.holds Tryz.pinned (.plain (OpenSpec.upto faultLeastSpec)) faultLeastUptoCard

/-- THE SECOND FORM's CARD OF 'combinerlaw07.FaultProofs'. -/
def faultProofsUptoCard : Claim7 := { stood := { row := faultProofsUptoRow, standIns := [], harness := (true, "87ed971a46d143ac664404183cb639de330058d80f7d2e21f7cd3d2d1ce3f35c"), looks := false }, kinds := [], alts := [], laidByText := true, laidKinds := [.data, .data, .data, .funcs], laidTests := true, laidLooks := .later }
def FaultProofsUptoCardSaid : Prop := Claim7.holds Tryz.pinned (.plain (OpenSpec.upto faultProofsSpec)) faultProofsUptoCard

/-- THE SECOND FORM's CARD OF 'combinerlaw07.FaultFurther'. -/
def faultFurtherUptoCard : Claim7 := { stood := { row := faultFurtherUptoRow, standIns := [], harness := (true, "87ed971a46d143ac664404183cb639de330058d80f7d2e21f7cd3d2d1ce3f35c"), looks := false }, kinds := [], alts := [], laidByText := true, laidKinds := [.data, .data, .data, .funcs], laidTests := true, laidLooks := .later }
def FaultFurtherUptoCardSaid : Prop := Claim7.holds Tryz.pinned (.plain (OpenSpec.upto faultFurtherSpec)) faultFurtherUptoCard

/-- THE SECOND FORM's CARD OF 'combinerlaw07.FaultPictures'. -/
def faultPicturesUptoCard : Claim7 := { stood := { row := faultPicturesUptoRow, standIns := [], harness := (true, "87ed971a46d143ac664404183cb639de330058d80f7d2e21f7cd3d2d1ce3f35c"), looks := false }, kinds := [], alts := [], laidByText := true, laidKinds := [.data, .data, .data, .funcs], laidTests := true, laidLooks := .later }
def FaultPicturesUptoCardSaid : Prop := Claim7.holds Tryz.pinned (.plain (OpenSpec.upto faultPicturesSpec)) faultPicturesUptoCard

/-- THE SECOND FORM's CARD OF 'combinerlaw07.FaultFrames'. -/
def faultFramesUptoCard : Claim7 := { stood := { row := faultFramesUptoRow, standIns := [], harness := (true, "87ed971a46d143ac664404183cb639de330058d80f7d2e21f7cd3d2d1ce3f35c"), looks := false }, kinds := [], alts := [], laidByText := true, laidKinds := [.data, .data, .data, .funcs], laidTests := true, laidLooks := .later }
def FaultFramesUptoCardSaid : Prop := Claim7.holds Tryz.pinned (.plain (OpenSpec.upto faultFramesSpec)) faultFramesUptoCard

/-- THE SECOND FORM's CARD OF 'combinerlaw07.FaultModules'. -/
def faultModulesUptoCard : Claim7 := { stood := { row := faultModulesUptoRow, standIns := [], harness := (true, "87ed971a46d143ac664404183cb639de330058d80f7d2e21f7cd3d2d1ce3f35c"), looks := false }, kinds := [], alts := [], laidByText := true, laidKinds := [.data, .data, .data, .funcs], laidTests := true, laidLooks := .later }
def FaultModulesUptoCardSaid : Prop := Claim7.holds Tryz.pinned (.plain (OpenSpec.upto faultModulesSpec)) faultModulesUptoCard

/-- THE SECOND FORM's CARD OF 'combinerlaw07.FaultMade'. -/
def faultMadeUptoCard : Claim7 := { stood := { row := faultMadeUptoRow, standIns := [], harness := (true, "87ed971a46d143ac664404183cb639de330058d80f7d2e21f7cd3d2d1ce3f35c"), looks := false }, kinds := [], alts := [], laidByText := true, laidKinds := [.data, .data, .data, .funcs], laidTests := true, laidLooks := .later }
def FaultMadeUptoCardSaid : Prop := Claim7.holds Tryz.pinned (.plain (OpenSpec.upto faultMadeSpec)) faultMadeUptoCard

/-- THE SECOND FORM's CARD OF 'combinerlaw07.FaultSpots'. -/
def faultSpotsUptoCard : Claim7 := { stood := { row := faultSpotsUptoRow, standIns := [], harness := (true, "87ed971a46d143ac664404183cb639de330058d80f7d2e21f7cd3d2d1ce3f35c"), looks := false }, kinds := [], alts := [], laidByText := true, laidKinds := [.data, .data, .data, .funcs], laidTests := true, laidLooks := .later }
def FaultSpotsUptoCardSaid : Prop := Claim7.holds Tryz.pinned (.plain (OpenSpec.upto faultSpotsSpec)) faultSpotsUptoCard

/-- THE SECOND FORM's CARD OF 'combinerlaw07.FaultStrings'. -/
def faultStringsUptoCard : Claim7 := { stood := { row := faultStringsUptoRow, standIns := [], harness := (true, "87ed971a46d143ac664404183cb639de330058d80f7d2e21f7cd3d2d1ce3f35c"), looks := false }, kinds := [], alts := [], laidByText := true, laidKinds := [.data, .data, .data, .data, .funcs, .pinned], laidTests := true, laidLooks := .later }
def FaultStringsUptoCardSaid : Prop := Claim7.holds Tryz.pinned (.plain (OpenSpec.upto faultStringsSpec)) faultStringsUptoCard

/-- THE SECOND FORM's CARD OF 'combinerlaw07.FaultNames'. -/
def faultNamesUptoCard : Claim7 := { stood := { row := faultNamesUptoRow, standIns := [], harness := (true, "87ed971a46d143ac664404183cb639de330058d80f7d2e21f7cd3d2d1ce3f35c"), looks := false }, kinds := [], alts := [], laidByText := true, laidKinds := [.data, .data, .data, .data, .funcs, .pinned], laidTests := true, laidLooks := .later }
def FaultNamesUptoCardSaid : Prop := Claim7.holds Tryz.pinned (.plain (OpenSpec.upto faultNamesSpec)) faultNamesUptoCard
end Rows
end Go.Proofs.YtifljcjddphpjaaGreatDoor
