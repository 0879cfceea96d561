/-
  NARROWER THAN 'FOR EVERY INPUT', by the rows' own cells (each row's printed sentence says how): FaultParks: laid · FaultSets: laid · FaultLeast: laid · FaultProofs: laid · FaultFurther: laid · FaultPictures: laid · FaultFrames: laid · FaultModules: laid · FaultMade: laid · FaultSpots: laid · FaultStrings: laid · FaultNames: laid.
  DERIVED. THE GIVEN ROWS OF THIS SEAT. 12 by the template 'for every input the law returns true; each argument reads behind the call as it read before'; 0 by the template 'total and deterministic' (their statements: YtifljcjddphpjaaGreatDoorTotals.lean).
  GIVEN WITH THE SEED: the statements are not yours to turn. If you find one false, say at which input.
  Laid BY PROGRAM, IN A SANDBOX (cutbox-rows.mjs): the forced cells as the released guide's own fill.sh prints them over the translation f2b4dc613edf3fe6… (all of the seat's roots in one cut). By AI agents, Wed Nov 11 2026. No macro, syntax, notation, axiom, sorry.
-/
import Derived.Test.YtifljcjddphpjaaGreatDoorChecked
import GoSem.PinnedTables
import GoSem.Claim
import GoSem.ClaimJoined
import GoSem.ClaimMapViews
import Derived.JoinedTies
import Derived.KernelRfl
namespace Go.Proofs.YtifljcjddphpjaaGreatDoor
/- THE CELL 'sum', in the pinned program and in every row, IS THE sha256 OF THE DUMP (.gsa) THAT YtifljcjddphpjaaGreatDoorProg.lean LOADS. Nothing in Lean hashes anything: it is a label: what it is worth is what the hold of that sum in a sandbox is worth. -/
noncomputable def Tryz.pinned : Pinned := { name := "ytifljcjddphpjaagreatdoor", sum := "f2b4dc613edf3fe629d3bf7fded2b762f31396189a13379c7076b3cf0f47bbd1", checked := Tryz.checked }
namespace Rows
def none {H : Type} : Left H := { results := [], args := [] }

/- WHAT THE LISTED PACKAGE-LEVEL VARIABLES READ AS WHEN THE CALL BEGINS. Each datum BY PROGRAM (the guide's laid-datum.mjs) off the statement by which the dump's own 'gosem.cut.vars' lays the variable. In a bare row this is a premise. The card (YtifljcjddphpjaaGreatDoorCards.lean) ties it to the program's text. -/
def laid_math_bits_deBruijn32tab {H : Type} : DataW H := .agg [.lit (.int .u8 0), .lit (.int .u8 1), .lit (.int .u8 28), .lit (.int .u8 2), .lit (.int .u8 29), .lit (.int .u8 14), .lit (.int .u8 24), .lit (.int .u8 3), .lit (.int .u8 30), .lit (.int .u8 22), .lit (.int .u8 20), .lit (.int .u8 15), .lit (.int .u8 25), .lit (.int .u8 17), .lit (.int .u8 4), .lit (.int .u8 8), .lit (.int .u8 31), .lit (.int .u8 27), .lit (.int .u8 13), .lit (.int .u8 23), .lit (.int .u8 21), .lit (.int .u8 19), .lit (.int .u8 16), .lit (.int .u8 7), .lit (.int .u8 26), .lit (.int .u8 12), .lit (.int .u8 18), .lit (.int .u8 6), .lit (.int .u8 11), .lit (.int .u8 5), .lit (.int .u8 10), .lit (.int .u8 9)]
def laid_math_bits_deBruijn64tab {H : Type} : DataW H := .agg [.lit (.int .u8 0), .lit (.int .u8 1), .lit (.int .u8 56), .lit (.int .u8 2), .lit (.int .u8 57), .lit (.int .u8 49), .lit (.int .u8 28), .lit (.int .u8 3), .lit (.int .u8 61), .lit (.int .u8 58), .lit (.int .u8 42), .lit (.int .u8 50), .lit (.int .u8 38), .lit (.int .u8 29), .lit (.int .u8 17), .lit (.int .u8 4), .lit (.int .u8 62), .lit (.int .u8 47), .lit (.int .u8 59), .lit (.int .u8 36), .lit (.int .u8 45), .lit (.int .u8 43), .lit (.int .u8 51), .lit (.int .u8 22), .lit (.int .u8 53), .lit (.int .u8 39), .lit (.int .u8 33), .lit (.int .u8 30), .lit (.int .u8 24), .lit (.int .u8 18), .lit (.int .u8 12), .lit (.int .u8 5), .lit (.int .u8 63), .lit (.int .u8 55), .lit (.int .u8 48), .lit (.int .u8 27), .lit (.int .u8 60), .lit (.int .u8 41), .lit (.int .u8 37), .lit (.int .u8 16), .lit (.int .u8 46), .lit (.int .u8 35), .lit (.int .u8 44), .lit (.int .u8 21), .lit (.int .u8 52), .lit (.int .u8 32), .lit (.int .u8 23), .lit (.int .u8 11), .lit (.int .u8 54), .lit (.int .u8 26), .lit (.int .u8 40), .lit (.int .u8 15), .lit (.int .u8 34), .lit (.int .u8 20), .lit (.int .u8 31), .lit (.int .u8 10), .lit (.int .u8 25), .lit (.int .u8 14), .lit (.int .u8 19), .lit (.int .u8 9), .lit (.int .u8 13), .lit (.int .u8 8), .lit (.int .u8 7), .lit (.int .u8 6)]
def laid_internal_strconv_uint64pow10 {H : Type} : DataW H := .agg [.lit (.int .u64 1), .lit (.int .u64 10), .lit (.int .u64 100), .lit (.int .u64 1000), .lit (.int .u64 10000), .lit (.int .u64 100000), .lit (.int .u64 1000000), .lit (.int .u64 10000000), .lit (.int .u64 100000000), .lit (.int .u64 1000000000), .lit (.int .u64 10000000000), .lit (.int .u64 100000000000), .lit (.int .u64 1000000000000), .lit (.int .u64 10000000000000), .lit (.int .u64 100000000000000), .lit (.int .u64 1000000000000000), .lit (.int .u64 10000000000000000), .lit (.int .u64 100000000000000000), .lit (.int .u64 1000000000000000000), .lit (.int .u64 10000000000000000000)]
def laid_combiner_fault_turns {H : Type} : DataW H := .iface "func table" (.agg [.agg [.lit (.string [110, 111, 110, 101]), .iface "func" (.lit (.string [99, 111, 109, 98, 105, 110, 101, 114, 47, 102, 97, 117, 108, 116, 46, 116, 117, 114, 110, 115, 36, 49]))], .agg [.lit (.string [111, 110, 101]), .iface "func" (.lit (.string [99, 111, 109, 98, 105, 110, 101, 114, 47, 102, 97, 117, 108, 116, 46, 116, 117, 114, 110, 115, 36, 50]))], .agg [.lit (.string [116, 119, 111]), .iface "func" (.lit (.string [99, 111, 109, 98, 105, 110, 101, 114, 47, 102, 97, 117, 108, 116, 46, 116, 117, 114, 110, 115, 36, 51]))], .agg [.lit (.string [116, 104, 114, 101, 101]), .iface "func" (.lit (.string [99, 111, 109, 98, 105, 110, 101, 114, 47, 102, 97, 117, 108, 116, 46, 116, 117, 114, 110, 115, 36, 52]))]])
def laid_unicode_utf8_acceptRanges {H : Type} : DataW H := .agg [.agg [.lit (.int .u8 128), .lit (.int .u8 191)], .agg [.lit (.int .u8 160), .lit (.int .u8 191)], .agg [.lit (.int .u8 128), .lit (.int .u8 159)], .agg [.lit (.int .u8 144), .lit (.int .u8 191)], .agg [.lit (.int .u8 128), .lit (.int .u8 143)], .agg [.lit (.int .u8 0), .lit (.int .u8 0)], .agg [.lit (.int .u8 0), .lit (.int .u8 0)], .agg [.lit (.int .u8 0), .lit (.int .u8 0)], .agg [.lit (.int .u8 0), .lit (.int .u8 0)], .agg [.lit (.int .u8 0), .lit (.int .u8 0)], .agg [.lit (.int .u8 0), .lit (.int .u8 0)], .agg [.lit (.int .u8 0), .lit (.int .u8 0)], .agg [.lit (.int .u8 0), .lit (.int .u8 0)], .agg [.lit (.int .u8 0), .lit (.int .u8 0)], .agg [.lit (.int .u8 0), .lit (.int .u8 0)], .agg [.lit (.int .u8 0), .lit (.int .u8 0)]]
/-- One of Go's own tables, pinned by name: the form's constant. -/
def laid_unicode_utf8_first : DataW Unit := Go.Pinned.utf8First

/-- 'combinerlaw07.FaultParks': WHATEVER THE INPUT: true; the input reads as it did. -/
def faultParksSpec : ChangeSpec := { name := "faultParks", fn := fun _ => fun
  | [d] => { results := [.lit (.bool true)], args := [d] }
  | _ => none }
def faultParksRow : OpenClaim := { program := "ytifljcjddphpjaagreatdoor", sum := "f2b4dc613edf3fe629d3bf7fded2b762f31396189a13379c7076b3cf0f47bbd1", func := "combiner/combinerlaw07.FaultParks", spec := "faultParks", inPlace := ["math.Float64bits", "math.Float64frombits", "math.archFloor", "math.archTrunc", "internal/abi.NoEscape", "internal/bytealg.MakeNoZero"], unfollowed := true, recurses := true, named := ["combiner/fault.turns", "internal/strconv.uint64pow10", "math/bits.deBruijn32tab", "math/bits.deBruijn64tab"], plainKeys := false, apart := false, laid := [("math/bits.deBruijn32tab", laid_math_bits_deBruijn32tab), ("math/bits.deBruijn64tab", laid_math_bits_deBruijn64tab), ("internal/strconv.uint64pow10", laid_internal_strconv_uint64pow10), ("combiner/fault.turns", laid_combiner_fault_turns)] }
def FaultParksSaid : Prop := faultParksRow.holds Tryz.pinned (OpenSpec.ofChange faultParksSpec)

/-- ITS FALSE NEIGHBOUR: 'it returns false'. Refute it at one input. -/
def faultParksWrong : ChangeSpec := { name := "faultParks", fn := fun _ => fun
  | [d] => { results := [.lit (.bool false)], args := [d] }
  | _ => none }
def FaultParksWrongFalsely : Prop := faultParksRow.holds Tryz.pinned (OpenSpec.ofChange faultParksWrong)

/-- 'combinerlaw07.FaultSets': WHATEVER THE INPUT: true; the input reads as it did. -/
def faultSetsSpec : ChangeSpec := { name := "faultSets", fn := fun _ => fun
  | [d1, d2] => { results := [.lit (.bool true)], args := [d1, d2] }
  | _ => none }
def faultSetsRow : OpenClaim := { program := "ytifljcjddphpjaagreatdoor", sum := "f2b4dc613edf3fe629d3bf7fded2b762f31396189a13379c7076b3cf0f47bbd1", func := "combiner/combinerlaw07.FaultSets", spec := "faultSets", inPlace := ["math.Float64bits", "math.Float64frombits", "math.archFloor", "math.archTrunc", "internal/abi.NoEscape", "internal/bytealg.MakeNoZero"], unfollowed := true, recurses := true, named := ["combiner/fault.turns", "internal/strconv.uint64pow10", "math/bits.deBruijn32tab", "math/bits.deBruijn64tab"], plainKeys := false, apart := false, laid := [("math/bits.deBruijn32tab", laid_math_bits_deBruijn32tab), ("math/bits.deBruijn64tab", laid_math_bits_deBruijn64tab), ("internal/strconv.uint64pow10", laid_internal_strconv_uint64pow10), ("combiner/fault.turns", laid_combiner_fault_turns)] }
def FaultSetsSaid : Prop := faultSetsRow.holds Tryz.pinned (OpenSpec.ofChange faultSetsSpec)

/-- ITS FALSE NEIGHBOUR: 'it returns false'. Refute it at one input. -/
def faultSetsWrong : ChangeSpec := { name := "faultSets", fn := fun _ => fun
  | [d1, d2] => { results := [.lit (.bool false)], args := [d1, d2] }
  | _ => none }
def FaultSetsWrongFalsely : Prop := faultSetsRow.holds Tryz.pinned (OpenSpec.ofChange faultSetsWrong)

/-- 'combinerlaw07.FaultLeast': WHATEVER THE INPUT: true; the input reads as it did. -/
def faultLeastSpec : ChangeSpec := { name := "faultLeast", fn := fun _ => fun
  | [d] => { results := [.lit (.bool true)], args := [d] }
  | _ => none }
def faultLeastRow : OpenClaim := { program := "ytifljcjddphpjaagreatdoor", sum := "f2b4dc613edf3fe629d3bf7fded2b762f31396189a13379c7076b3cf0f47bbd1", func := "combiner/combinerlaw07.FaultLeast", spec := "faultLeast", inPlace := ["math.Float64bits", "math.Float64frombits", "math.archFloor", "math.archTrunc", "internal/abi.NoEscape", "internal/bytealg.MakeNoZero"], unfollowed := true, recurses := true, named := ["combiner/fault.turns", "internal/strconv.uint64pow10", "math/bits.deBruijn32tab", "math/bits.deBruijn64tab"], plainKeys := false, apart := false, laid := [("math/bits.deBruijn32tab", laid_math_bits_deBruijn32tab), ("math/bits.deBruijn64tab", laid_math_bits_deBruijn64tab), ("internal/strconv.uint64pow10", laid_internal_strconv_uint64pow10), ("combiner/fault.turns", laid_combiner_fault_turns)] }
def FaultLeastSaid : Prop := faultLeastRow.holds Tryz.pinned (OpenSpec.ofChange faultLeastSpec)

/-- ITS FALSE NEIGHBOUR: 'it returns false'. Refute it at one input. -/
def faultLeastWrong : ChangeSpec := { name := "faultLeast", fn := fun _ => fun
  | [d] => { results := [.lit (.bool false)], args := [d] }
  | _ => none }
def FaultLeastWrongFalsely : Prop := faultLeastRow.holds Tryz.pinned (OpenSpec.ofChange faultLeastWrong)

/-- 'combinerlaw07.FaultProofs': WHATEVER THE INPUT: true; the input reads as it did. -/
def faultProofsSpec : ChangeSpec := { name := "faultProofs", fn := fun _ => fun
  | [d1, d2, d3] => { results := [.lit (.bool true)], args := [d1, d2, d3] }
  | _ => none }
def faultProofsRow : OpenClaim := { program := "ytifljcjddphpjaagreatdoor", sum := "f2b4dc613edf3fe629d3bf7fded2b762f31396189a13379c7076b3cf0f47bbd1", func := "combiner/combinerlaw07.FaultProofs", spec := "faultProofs", inPlace := ["math.Float64bits", "math.Float64frombits", "math.archFloor", "math.archTrunc", "internal/abi.NoEscape", "internal/bytealg.MakeNoZero"], unfollowed := true, recurses := true, named := ["combiner/fault.turns", "internal/strconv.uint64pow10", "math/bits.deBruijn32tab", "math/bits.deBruijn64tab"], plainKeys := false, apart := false, laid := [("math/bits.deBruijn32tab", laid_math_bits_deBruijn32tab), ("math/bits.deBruijn64tab", laid_math_bits_deBruijn64tab), ("internal/strconv.uint64pow10", laid_internal_strconv_uint64pow10), ("combiner/fault.turns", laid_combiner_fault_turns)] }
def FaultProofsSaid : Prop := faultProofsRow.holds Tryz.pinned (OpenSpec.ofChange faultProofsSpec)

/-- ITS FALSE NEIGHBOUR: 'it returns false'. Refute it at one input. -/
def faultProofsWrong : ChangeSpec := { name := "faultProofs", fn := fun _ => fun
  | [d1, d2, d3] => { results := [.lit (.bool false)], args := [d1, d2, d3] }
  | _ => none }
def FaultProofsWrongFalsely : Prop := faultProofsRow.holds Tryz.pinned (OpenSpec.ofChange faultProofsWrong)

/-- 'combinerlaw07.FaultFurther': WHATEVER THE INPUT: true; the input reads as it did. -/
def faultFurtherSpec : ChangeSpec := { name := "faultFurther", fn := fun _ => fun
  | [d1, d2, d3] => { results := [.lit (.bool true)], args := [d1, d2, d3] }
  | _ => none }
def faultFurtherRow : OpenClaim := { program := "ytifljcjddphpjaagreatdoor", sum := "f2b4dc613edf3fe629d3bf7fded2b762f31396189a13379c7076b3cf0f47bbd1", func := "combiner/combinerlaw07.FaultFurther", spec := "faultFurther", inPlace := ["math.Float64bits", "math.Float64frombits", "math.archFloor", "math.archTrunc", "internal/abi.NoEscape", "internal/bytealg.MakeNoZero"], unfollowed := true, recurses := true, named := ["combiner/fault.turns", "internal/strconv.uint64pow10", "math/bits.deBruijn32tab", "math/bits.deBruijn64tab"], plainKeys := false, apart := false, laid := [("math/bits.deBruijn32tab", laid_math_bits_deBruijn32tab), ("math/bits.deBruijn64tab", laid_math_bits_deBruijn64tab), ("internal/strconv.uint64pow10", laid_internal_strconv_uint64pow10), ("combiner/fault.turns", laid_combiner_fault_turns)] }
def FaultFurtherSaid : Prop := faultFurtherRow.holds Tryz.pinned (OpenSpec.ofChange faultFurtherSpec)

/-- ITS FALSE NEIGHBOUR: 'it returns false'. Refute it at one input. -/
def faultFurtherWrong : ChangeSpec := { name := "faultFurther", fn := fun _ => fun
  | [d1, d2, d3] => { results := [.lit (.bool false)], args := [d1, d2, d3] }
  | _ => none }
def FaultFurtherWrongFalsely : Prop := faultFurtherRow.holds Tryz.pinned (OpenSpec.ofChange faultFurtherWrong)

/-- 'combinerlaw07.FaultPictures': WHATEVER THE INPUT: true; the input reads as it did. -/
def faultPicturesSpec : ChangeSpec := { name := "faultPictures", fn := fun _ => fun
  | [d1, d2] => { results := [.lit (.bool true)], args := [d1, d2] }
  | _ => none }
def faultPicturesRow : OpenClaim := { program := "ytifljcjddphpjaagreatdoor", sum := "f2b4dc613edf3fe629d3bf7fded2b762f31396189a13379c7076b3cf0f47bbd1", func := "combiner/combinerlaw07.FaultPictures", spec := "faultPictures", inPlace := ["math.Float64bits", "math.Float64frombits", "math.archFloor", "math.archTrunc", "internal/abi.NoEscape", "internal/bytealg.MakeNoZero"], unfollowed := true, recurses := true, named := ["combiner/fault.turns", "internal/strconv.uint64pow10", "math/bits.deBruijn32tab", "math/bits.deBruijn64tab"], plainKeys := false, apart := false, laid := [("math/bits.deBruijn32tab", laid_math_bits_deBruijn32tab), ("math/bits.deBruijn64tab", laid_math_bits_deBruijn64tab), ("internal/strconv.uint64pow10", laid_internal_strconv_uint64pow10), ("combiner/fault.turns", laid_combiner_fault_turns)] }
def FaultPicturesSaid : Prop := faultPicturesRow.holds Tryz.pinned (OpenSpec.ofChange faultPicturesSpec)

/-- ITS FALSE NEIGHBOUR: 'it returns false'. Refute it at one input. -/
def faultPicturesWrong : ChangeSpec := { name := "faultPictures", fn := fun _ => fun
  | [d1, d2] => { results := [.lit (.bool false)], args := [d1, d2] }
  | _ => none }
def FaultPicturesWrongFalsely : Prop := faultPicturesRow.holds Tryz.pinned (OpenSpec.ofChange faultPicturesWrong)

/-- 'combinerlaw07.FaultFrames': WHATEVER THE INPUT: true; the input reads as it did. -/
def faultFramesSpec : ChangeSpec := { name := "faultFrames", fn := fun _ => fun
  | [d1, d2, d3] => { results := [.lit (.bool true)], args := [d1, d2, d3] }
  | _ => none }
def faultFramesRow : OpenClaim := { program := "ytifljcjddphpjaagreatdoor", sum := "f2b4dc613edf3fe629d3bf7fded2b762f31396189a13379c7076b3cf0f47bbd1", func := "combiner/combinerlaw07.FaultFrames", spec := "faultFrames", inPlace := ["math.Float64bits", "math.Float64frombits", "math.archFloor", "math.archTrunc", "internal/abi.NoEscape", "internal/bytealg.MakeNoZero"], unfollowed := true, recurses := true, named := ["combiner/fault.turns", "internal/strconv.uint64pow10", "math/bits.deBruijn32tab", "math/bits.deBruijn64tab"], plainKeys := false, apart := false, laid := [("math/bits.deBruijn32tab", laid_math_bits_deBruijn32tab), ("math/bits.deBruijn64tab", laid_math_bits_deBruijn64tab), ("internal/strconv.uint64pow10", laid_internal_strconv_uint64pow10), ("combiner/fault.turns", laid_combiner_fault_turns)] }
def FaultFramesSaid : Prop := faultFramesRow.holds Tryz.pinned (OpenSpec.ofChange faultFramesSpec)

/-- ITS FALSE NEIGHBOUR: 'it returns false'. Refute it at one input. -/
def faultFramesWrong : ChangeSpec := { name := "faultFrames", fn := fun _ => fun
  | [d1, d2, d3] => { results := [.lit (.bool false)], args := [d1, d2, d3] }
  | _ => none }
def FaultFramesWrongFalsely : Prop := faultFramesRow.holds Tryz.pinned (OpenSpec.ofChange faultFramesWrong)

/-- 'combinerlaw07.FaultModules': WHATEVER THE INPUT: true; the input reads as it did. -/
def faultModulesSpec : ChangeSpec := { name := "faultModules", fn := fun _ => fun
  | [d1, d2, d3] => { results := [.lit (.bool true)], args := [d1, d2, d3] }
  | _ => none }
def faultModulesRow : OpenClaim := { program := "ytifljcjddphpjaagreatdoor", sum := "f2b4dc613edf3fe629d3bf7fded2b762f31396189a13379c7076b3cf0f47bbd1", func := "combiner/combinerlaw07.FaultModules", spec := "faultModules", inPlace := ["math.Float64bits", "math.Float64frombits", "math.archFloor", "math.archTrunc", "internal/abi.NoEscape", "internal/bytealg.MakeNoZero"], unfollowed := true, recurses := true, named := ["combiner/fault.turns", "internal/strconv.uint64pow10", "math/bits.deBruijn32tab", "math/bits.deBruijn64tab"], plainKeys := false, apart := false, laid := [("math/bits.deBruijn32tab", laid_math_bits_deBruijn32tab), ("math/bits.deBruijn64tab", laid_math_bits_deBruijn64tab), ("internal/strconv.uint64pow10", laid_internal_strconv_uint64pow10), ("combiner/fault.turns", laid_combiner_fault_turns)] }
def FaultModulesSaid : Prop := faultModulesRow.holds Tryz.pinned (OpenSpec.ofChange faultModulesSpec)

/-- ITS FALSE NEIGHBOUR: 'it returns false'. Refute it at one input. -/
def faultModulesWrong : ChangeSpec := { name := "faultModules", fn := fun _ => fun
  | [d1, d2, d3] => { results := [.lit (.bool false)], args := [d1, d2, d3] }
  | _ => none }
def FaultModulesWrongFalsely : Prop := faultModulesRow.holds Tryz.pinned (OpenSpec.ofChange faultModulesWrong)

/-- 'combinerlaw07.FaultMade': WHATEVER THE INPUT: true; the input reads as it did. -/
def faultMadeSpec : ChangeSpec := { name := "faultMade", fn := fun _ => fun
  | [d1, d2, d3] => { results := [.lit (.bool true)], args := [d1, d2, d3] }
  | _ => none }
def faultMadeRow : OpenClaim := { program := "ytifljcjddphpjaagreatdoor", sum := "f2b4dc613edf3fe629d3bf7fded2b762f31396189a13379c7076b3cf0f47bbd1", func := "combiner/combinerlaw07.FaultMade", spec := "faultMade", inPlace := ["math.Float64bits", "math.Float64frombits", "math.archFloor", "math.archTrunc", "internal/abi.NoEscape", "internal/bytealg.MakeNoZero"], unfollowed := true, recurses := true, named := ["combiner/fault.turns", "internal/strconv.uint64pow10", "math/bits.deBruijn32tab", "math/bits.deBruijn64tab"], plainKeys := false, apart := false, laid := [("math/bits.deBruijn32tab", laid_math_bits_deBruijn32tab), ("math/bits.deBruijn64tab", laid_math_bits_deBruijn64tab), ("internal/strconv.uint64pow10", laid_internal_strconv_uint64pow10), ("combiner/fault.turns", laid_combiner_fault_turns)] }
def FaultMadeSaid : Prop := faultMadeRow.holds Tryz.pinned (OpenSpec.ofChange faultMadeSpec)

/-- ITS FALSE NEIGHBOUR: 'it returns false'. Refute it at one input. -/
def faultMadeWrong : ChangeSpec := { name := "faultMade", fn := fun _ => fun
  | [d1, d2, d3] => { results := [.lit (.bool false)], args := [d1, d2, d3] }
  | _ => none }
def FaultMadeWrongFalsely : Prop := faultMadeRow.holds Tryz.pinned (OpenSpec.ofChange faultMadeWrong)

/-- 'combinerlaw07.FaultSpots': WHATEVER THE INPUT: true; the input reads as it did. -/
def faultSpotsSpec : ChangeSpec := { name := "faultSpots", fn := fun _ => fun
  | [d1, d2, d3] => { results := [.lit (.bool true)], args := [d1, d2, d3] }
  | _ => none }
def faultSpotsRow : OpenClaim := { program := "ytifljcjddphpjaagreatdoor", sum := "f2b4dc613edf3fe629d3bf7fded2b762f31396189a13379c7076b3cf0f47bbd1", func := "combiner/combinerlaw07.FaultSpots", spec := "faultSpots", inPlace := ["math.Float64bits", "math.Float64frombits", "math.archFloor", "math.archTrunc", "internal/abi.NoEscape", "internal/bytealg.MakeNoZero"], unfollowed := true, recurses := true, named := ["combiner/fault.turns", "internal/strconv.uint64pow10", "math/bits.deBruijn32tab", "math/bits.deBruijn64tab"], plainKeys := false, apart := false, laid := [("math/bits.deBruijn32tab", laid_math_bits_deBruijn32tab), ("math/bits.deBruijn64tab", laid_math_bits_deBruijn64tab), ("internal/strconv.uint64pow10", laid_internal_strconv_uint64pow10), ("combiner/fault.turns", laid_combiner_fault_turns)] }
def FaultSpotsSaid : Prop := faultSpotsRow.holds Tryz.pinned (OpenSpec.ofChange faultSpotsSpec)

/-- ITS FALSE NEIGHBOUR: 'it returns false'. Refute it at one input. -/
def faultSpotsWrong : ChangeSpec := { name := "faultSpots", fn := fun _ => fun
  | [d1, d2, d3] => { results := [.lit (.bool false)], args := [d1, d2, d3] }
  | _ => none }
def FaultSpotsWrongFalsely : Prop := faultSpotsRow.holds Tryz.pinned (OpenSpec.ofChange faultSpotsWrong)

/-- 'combinerlaw07.FaultStrings': WHATEVER THE INPUT: true; the input reads as it did. -/
def faultStringsSpec : ChangeSpec := { name := "faultStrings", fn := fun _ => fun
  | [d1, d2] => { results := [.lit (.bool true)], args := [d1, d2] }
  | _ => none }
def faultStringsRow : OpenClaim := { program := "ytifljcjddphpjaagreatdoor", sum := "f2b4dc613edf3fe629d3bf7fded2b762f31396189a13379c7076b3cf0f47bbd1", func := "combiner/combinerlaw07.FaultStrings", spec := "faultStrings", inPlace := ["math.Float64bits", "math.Float64frombits", "math.archFloor", "math.archTrunc", "internal/abi.NoEscape", "internal/bytealg.MakeNoZero", "internal/bytealg.IndexByteString", "internal/bytealg.CountString", "internal/bytealg.IndexString"], unfollowed := true, recurses := true, named := ["combiner/fault.turns", "internal/strconv.uint64pow10", "math/bits.deBruijn32tab", "math/bits.deBruijn64tab", "unicode/utf8.first", "unicode/utf8.acceptRanges", "internal/bytealg.MaxLen"], plainKeys := false, apart := false, laid := [("math/bits.deBruijn32tab", laid_math_bits_deBruijn32tab), ("math/bits.deBruijn64tab", laid_math_bits_deBruijn64tab), ("internal/strconv.uint64pow10", laid_internal_strconv_uint64pow10), ("unicode/utf8.acceptRanges", laid_unicode_utf8_acceptRanges), ("combiner/fault.turns", laid_combiner_fault_turns), ("unicode/utf8.first", laid_unicode_utf8_first)] }
def FaultStringsSaid : Prop := faultStringsRow.holds Tryz.pinned (OpenSpec.ofChange faultStringsSpec)

/-- ITS FALSE NEIGHBOUR: 'it returns false'. Refute it at one input. -/
def faultStringsWrong : ChangeSpec := { name := "faultStrings", fn := fun _ => fun
  | [d1, d2] => { results := [.lit (.bool false)], args := [d1, d2] }
  | _ => none }
def FaultStringsWrongFalsely : Prop := faultStringsRow.holds Tryz.pinned (OpenSpec.ofChange faultStringsWrong)

/-- 'combinerlaw07.FaultNames': WHATEVER THE INPUT: true; the input reads as it did. -/
def faultNamesSpec : ChangeSpec := { name := "faultNames", fn := fun _ => fun
  | [d1, d2] => { results := [.lit (.bool true)], args := [d1, d2] }
  | _ => none }
def faultNamesRow : OpenClaim := { program := "ytifljcjddphpjaagreatdoor", sum := "f2b4dc613edf3fe629d3bf7fded2b762f31396189a13379c7076b3cf0f47bbd1", func := "combiner/combinerlaw07.FaultNames", spec := "faultNames", inPlace := ["math.Float64bits", "math.Float64frombits", "math.archFloor", "math.archTrunc", "internal/abi.NoEscape", "internal/bytealg.MakeNoZero", "internal/bytealg.IndexByteString", "internal/bytealg.CountString", "internal/bytealg.IndexString"], unfollowed := true, recurses := true, named := ["combiner/fault.turns", "internal/strconv.uint64pow10", "math/bits.deBruijn32tab", "math/bits.deBruijn64tab", "unicode/utf8.first", "unicode/utf8.acceptRanges", "internal/bytealg.MaxLen"], plainKeys := false, apart := false, laid := [("math/bits.deBruijn32tab", laid_math_bits_deBruijn32tab), ("math/bits.deBruijn64tab", laid_math_bits_deBruijn64tab), ("internal/strconv.uint64pow10", laid_internal_strconv_uint64pow10), ("unicode/utf8.acceptRanges", laid_unicode_utf8_acceptRanges), ("combiner/fault.turns", laid_combiner_fault_turns), ("unicode/utf8.first", laid_unicode_utf8_first)] }
def FaultNamesSaid : Prop := faultNamesRow.holds Tryz.pinned (OpenSpec.ofChange faultNamesSpec)

/-- ITS FALSE NEIGHBOUR: 'it returns false'. Refute it at one input. -/
def faultNamesWrong : ChangeSpec := { name := "faultNames", fn := fun _ => fun
  | [d1, d2] => { results := [.lit (.bool false)], args := [d1, d2] }
  | _ => none }
def FaultNamesWrongFalsely : Prop := faultNamesRow.holds Tryz.pinned (OpenSpec.ofChange faultNamesWrong)

/- THE SECOND FORM. 'bulk': how many values and letters a reading holds, each counted each time it is reached (what is shared counts as often as it is met; a slice's spare places count too). A statement '..UptoSaid' is the law's where the arguments, and the package variables that the reading takes, are together of bulk at most 1048576: NARROWER than '..Said'. Prove '..Said' where nothing that the law and all that it calls make is longer than what came in: it says more and counts as full. Else prove '..UptoSaid'. A law counts once. -/
mutual
def uptoBulk {H : Type} : DataW H → Nat
  | .lit (.string bytes) => bytes.length + 1
  | .lit _ => 1
  | .nil => 1
  | .ptr d => uptoBulk d + 1
  | .slice elems spare => uptoBulkAll elems + uptoBulkAll spare + 1
  | .agg parts => uptoBulkAll parts + 1
  | .iface _ d => uptoBulk d + 1
  | .map entries => uptoBulkEntries entries + 1
  | .held _ => 1
def uptoBulkAll {H : Type} : List (DataW H) → Nat
  | [] => 0
  | d :: r => uptoBulk d + uptoBulkAll r
def uptoBulkEntries {H : Type} : List (Lit × DataW H) → Nat
  | [] => 0
  | x :: r => uptoBulkEntry x + uptoBulkEntries r
def uptoBulkEntry {H : Type} : Lit × DataW H → Nat
  | (.string bytes, d) => bytes.length + uptoBulk d + 1
  | (_, d) => uptoBulk d + 1
 end
def uptoSmall : (H : Type) → List (DataW H) → Bool := fun _ ds => decide (uptoBulkAll ds ≤ 1048576)
def OpenSpec.upto (s : _root_.Go.ChangeSpec) : _root_.Go.OpenSpec := { _root_.Go.OpenSpec.ofChange s with cond := some uptoSmall }

/-- 'combinerlaw07.FaultParks', WHERE WHAT IT READS IS OF BULK AT MOST 1048576: true; the input reads as it did. -/
def faultParksUptoRow : OpenClaim := { program := "ytifljcjddphpjaagreatdoor", sum := "f2b4dc613edf3fe629d3bf7fded2b762f31396189a13379c7076b3cf0f47bbd1", func := "combiner/combinerlaw07.FaultParks", spec := "faultParks", inPlace := ["math.Float64bits", "math.Float64frombits", "math.archFloor", "math.archTrunc", "internal/abi.NoEscape", "internal/bytealg.MakeNoZero"], unfollowed := true, recurses := true, named := ["combiner/fault.turns", "internal/strconv.uint64pow10", "math/bits.deBruijn32tab", "math/bits.deBruijn64tab"], plainKeys := false, apart := false, laid := [("math/bits.deBruijn32tab", laid_math_bits_deBruijn32tab), ("math/bits.deBruijn64tab", laid_math_bits_deBruijn64tab), ("internal/strconv.uint64pow10", laid_internal_strconv_uint64pow10), ("combiner/fault.turns", laid_combiner_fault_turns)], narrowed := true }
def FaultParksUptoSaid : Prop := faultParksUptoRow.holds Tryz.pinned (OpenSpec.upto faultParksSpec)

/-- 'combinerlaw07.FaultSets', WHERE WHAT IT READS IS OF BULK AT MOST 1048576: true; the input reads as it did. -/
def faultSetsUptoRow : OpenClaim := { program := "ytifljcjddphpjaagreatdoor", sum := "f2b4dc613edf3fe629d3bf7fded2b762f31396189a13379c7076b3cf0f47bbd1", func := "combiner/combinerlaw07.FaultSets", spec := "faultSets", inPlace := ["math.Float64bits", "math.Float64frombits", "math.archFloor", "math.archTrunc", "internal/abi.NoEscape", "internal/bytealg.MakeNoZero"], unfollowed := true, recurses := true, named := ["combiner/fault.turns", "internal/strconv.uint64pow10", "math/bits.deBruijn32tab", "math/bits.deBruijn64tab"], plainKeys := false, apart := false, laid := [("math/bits.deBruijn32tab", laid_math_bits_deBruijn32tab), ("math/bits.deBruijn64tab", laid_math_bits_deBruijn64tab), ("internal/strconv.uint64pow10", laid_internal_strconv_uint64pow10), ("combiner/fault.turns", laid_combiner_fault_turns)], narrowed := true }
def FaultSetsUptoSaid : Prop := faultSetsUptoRow.holds Tryz.pinned (OpenSpec.upto faultSetsSpec)

/-- 'combinerlaw07.FaultLeast', WHERE WHAT IT READS IS OF BULK AT MOST 1048576: true; the input reads as it did. -/
def faultLeastUptoRow : OpenClaim := { program := "ytifljcjddphpjaagreatdoor", sum := "f2b4dc613edf3fe629d3bf7fded2b762f31396189a13379c7076b3cf0f47bbd1", func := "combiner/combinerlaw07.FaultLeast", spec := "faultLeast", inPlace := ["math.Float64bits", "math.Float64frombits", "math.archFloor", "math.archTrunc", "internal/abi.NoEscape", "internal/bytealg.MakeNoZero"], unfollowed := true, recurses := true, named := ["combiner/fault.turns", "internal/strconv.uint64pow10", "math/bits.deBruijn32tab", "math/bits.deBruijn64tab"], plainKeys := false, apart := false, laid := [("math/bits.deBruijn32tab", laid_math_bits_deBruijn32tab), ("math/bits.deBruijn64tab", laid_math_bits_deBruijn64tab), ("internal/strconv.uint64pow10", laid_internal_strconv_uint64pow10), ("combiner/fault.turns", laid_combiner_fault_turns)], narrowed := true }
def FaultLeastUptoSaid : Prop := faultLeastUptoRow.holds Tryz.pinned (OpenSpec.upto faultLeastSpec)

/-- 'combinerlaw07.FaultProofs', WHERE WHAT IT READS IS OF BULK AT MOST 1048576: true; the input reads as it did. -/
def faultProofsUptoRow : OpenClaim := { program := "ytifljcjddphpjaagreatdoor", sum := "f2b4dc613edf3fe629d3bf7fded2b762f31396189a13379c7076b3cf0f47bbd1", func := "combiner/combinerlaw07.FaultProofs", spec := "faultProofs", inPlace := ["math.Float64bits", "math.Float64frombits", "math.archFloor", "math.archTrunc", "internal/abi.NoEscape", "internal/bytealg.MakeNoZero"], unfollowed := true, recurses := true, named := ["combiner/fault.turns", "internal/strconv.uint64pow10", "math/bits.deBruijn32tab", "math/bits.deBruijn64tab"], plainKeys := false, apart := false, laid := [("math/bits.deBruijn32tab", laid_math_bits_deBruijn32tab), ("math/bits.deBruijn64tab", laid_math_bits_deBruijn64tab), ("internal/strconv.uint64pow10", laid_internal_strconv_uint64pow10), ("combiner/fault.turns", laid_combiner_fault_turns)], narrowed := true }
def FaultProofsUptoSaid : Prop := faultProofsUptoRow.holds Tryz.pinned (OpenSpec.upto faultProofsSpec)

/-- 'combinerlaw07.FaultFurther', WHERE WHAT IT READS IS OF BULK AT MOST 1048576: true; the input reads as it did. -/
def faultFurtherUptoRow : OpenClaim := { program := "ytifljcjddphpjaagreatdoor", sum := "f2b4dc613edf3fe629d3bf7fded2b762f31396189a13379c7076b3cf0f47bbd1", func := "combiner/combinerlaw07.FaultFurther", spec := "faultFurther", inPlace := ["math.Float64bits", "math.Float64frombits", "math.archFloor", "math.archTrunc", "internal/abi.NoEscape", "internal/bytealg.MakeNoZero"], unfollowed := true, recurses := true, named := ["combiner/fault.turns", "internal/strconv.uint64pow10", "math/bits.deBruijn32tab", "math/bits.deBruijn64tab"], plainKeys := false, apart := false, laid := [("math/bits.deBruijn32tab", laid_math_bits_deBruijn32tab), ("math/bits.deBruijn64tab", laid_math_bits_deBruijn64tab), ("internal/strconv.uint64pow10", laid_internal_strconv_uint64pow10), ("combiner/fault.turns", laid_combiner_fault_turns)], narrowed := true }
def FaultFurtherUptoSaid : Prop := faultFurtherUptoRow.holds Tryz.pinned (OpenSpec.upto faultFurtherSpec)

/-- 'combinerlaw07.FaultPictures', WHERE WHAT IT READS IS OF BULK AT MOST 1048576: true; the input reads as it did. -/
def faultPicturesUptoRow : OpenClaim := { program := "ytifljcjddphpjaagreatdoor", sum := "f2b4dc613edf3fe629d3bf7fded2b762f31396189a13379c7076b3cf0f47bbd1", func := "combiner/combinerlaw07.FaultPictures", spec := "faultPictures", inPlace := ["math.Float64bits", "math.Float64frombits", "math.archFloor", "math.archTrunc", "internal/abi.NoEscape", "internal/bytealg.MakeNoZero"], unfollowed := true, recurses := true, named := ["combiner/fault.turns", "internal/strconv.uint64pow10", "math/bits.deBruijn32tab", "math/bits.deBruijn64tab"], plainKeys := false, apart := false, laid := [("math/bits.deBruijn32tab", laid_math_bits_deBruijn32tab), ("math/bits.deBruijn64tab", laid_math_bits_deBruijn64tab), ("internal/strconv.uint64pow10", laid_internal_strconv_uint64pow10), ("combiner/fault.turns", laid_combiner_fault_turns)], narrowed := true }
def FaultPicturesUptoSaid : Prop := faultPicturesUptoRow.holds Tryz.pinned (OpenSpec.upto faultPicturesSpec)

/-- 'combinerlaw07.FaultFrames', WHERE WHAT IT READS IS OF BULK AT MOST 1048576: true; the input reads as it did. -/
def faultFramesUptoRow : OpenClaim := { program := "ytifljcjddphpjaagreatdoor", sum := "f2b4dc613edf3fe629d3bf7fded2b762f31396189a13379c7076b3cf0f47bbd1", func := "combiner/combinerlaw07.FaultFrames", spec := "faultFrames", inPlace := ["math.Float64bits", "math.Float64frombits", "math.archFloor", "math.archTrunc", "internal/abi.NoEscape", "internal/bytealg.MakeNoZero"], unfollowed := true, recurses := true, named := ["combiner/fault.turns", "internal/strconv.uint64pow10", "math/bits.deBruijn32tab", "math/bits.deBruijn64tab"], plainKeys := false, apart := false, laid := [("math/bits.deBruijn32tab", laid_math_bits_deBruijn32tab), ("math/bits.deBruijn64tab", laid_math_bits_deBruijn64tab), ("internal/strconv.uint64pow10", laid_internal_strconv_uint64pow10), ("combiner/fault.turns", laid_combiner_fault_turns)], narrowed := true }
def FaultFramesUptoSaid : Prop := faultFramesUptoRow.holds Tryz.pinned (OpenSpec.upto faultFramesSpec)

/-- 'combinerlaw07.FaultModules', WHERE WHAT IT READS IS OF BULK AT MOST 1048576: true; the input reads as it did. -/
def faultModulesUptoRow : OpenClaim := { program := "ytifljcjddphpjaagreatdoor", sum := "f2b4dc613edf3fe629d3bf7fded2b762f31396189a13379c7076b3cf0f47bbd1", func := "combiner/combinerlaw07.FaultModules", spec := "faultModules", inPlace := ["math.Float64bits", "math.Float64frombits", "math.archFloor", "math.archTrunc", "internal/abi.NoEscape", "internal/bytealg.MakeNoZero"], unfollowed := true, recurses := true, named := ["combiner/fault.turns", "internal/strconv.uint64pow10", "math/bits.deBruijn32tab", "math/bits.deBruijn64tab"], plainKeys := false, apart := false, laid := [("math/bits.deBruijn32tab", laid_math_bits_deBruijn32tab), ("math/bits.deBruijn64tab", laid_math_bits_deBruijn64tab), ("internal/strconv.uint64pow10", laid_internal_strconv_uint64pow10), ("combiner/fault.turns", laid_combiner_fault_turns)], narrowed := true }
def FaultModulesUptoSaid : Prop := faultModulesUptoRow.holds Tryz.pinned (OpenSpec.upto faultModulesSpec)

/-- 'combinerlaw07.FaultMade', WHERE WHAT IT READS IS OF BULK AT MOST 1048576: true; the input reads as it did. -/
def faultMadeUptoRow : OpenClaim := { program := "ytifljcjddphpjaagreatdoor", sum := "f2b4dc613edf3fe629d3bf7fded2b762f31396189a13379c7076b3cf0f47bbd1", func := "combiner/combinerlaw07.FaultMade", spec := "faultMade", inPlace := ["math.Float64bits", "math.Float64frombits", "math.archFloor", "math.archTrunc", "internal/abi.NoEscape", "internal/bytealg.MakeNoZero"], unfollowed := true, recurses := true, named := ["combiner/fault.turns", "internal/strconv.uint64pow10", "math/bits.deBruijn32tab", "math/bits.deBruijn64tab"], plainKeys := false, apart := false, laid := [("math/bits.deBruijn32tab", laid_math_bits_deBruijn32tab), ("math/bits.deBruijn64tab", laid_math_bits_deBruijn64tab), ("internal/strconv.uint64pow10", laid_internal_strconv_uint64pow10), ("combiner/fault.turns", laid_combiner_fault_turns)], narrowed := true }
def FaultMadeUptoSaid : Prop := faultMadeUptoRow.holds Tryz.pinned (OpenSpec.upto faultMadeSpec)

/-- 'combinerlaw07.FaultSpots', WHERE WHAT IT READS IS OF BULK AT MOST 1048576: true; the input reads as it did. -/
def faultSpotsUptoRow : OpenClaim := { program := "ytifljcjddphpjaagreatdoor", sum := "f2b4dc613edf3fe629d3bf7fded2b762f31396189a13379c7076b3cf0f47bbd1", func := "combiner/combinerlaw07.FaultSpots", spec := "faultSpots", inPlace := ["math.Float64bits", "math.Float64frombits", "math.archFloor", "math.archTrunc", "internal/abi.NoEscape", "internal/bytealg.MakeNoZero"], unfollowed := true, recurses := true, named := ["combiner/fault.turns", "internal/strconv.uint64pow10", "math/bits.deBruijn32tab", "math/bits.deBruijn64tab"], plainKeys := false, apart := false, laid := [("math/bits.deBruijn32tab", laid_math_bits_deBruijn32tab), ("math/bits.deBruijn64tab", laid_math_bits_deBruijn64tab), ("internal/strconv.uint64pow10", laid_internal_strconv_uint64pow10), ("combiner/fault.turns", laid_combiner_fault_turns)], narrowed := true }
def FaultSpotsUptoSaid : Prop := faultSpotsUptoRow.holds Tryz.pinned (OpenSpec.upto faultSpotsSpec)

/-- 'combinerlaw07.FaultStrings', WHERE WHAT IT READS IS OF BULK AT MOST 1048576: true; the input reads as it did. -/
def faultStringsUptoRow : OpenClaim := { program := "ytifljcjddphpjaagreatdoor", sum := "f2b4dc613edf3fe629d3bf7fded2b762f31396189a13379c7076b3cf0f47bbd1", func := "combiner/combinerlaw07.FaultStrings", spec := "faultStrings", inPlace := ["math.Float64bits", "math.Float64frombits", "math.archFloor", "math.archTrunc", "internal/abi.NoEscape", "internal/bytealg.MakeNoZero", "internal/bytealg.IndexByteString", "internal/bytealg.CountString", "internal/bytealg.IndexString"], unfollowed := true, recurses := true, named := ["combiner/fault.turns", "internal/strconv.uint64pow10", "math/bits.deBruijn32tab", "math/bits.deBruijn64tab", "unicode/utf8.first", "unicode/utf8.acceptRanges", "internal/bytealg.MaxLen"], plainKeys := false, apart := false, laid := [("math/bits.deBruijn32tab", laid_math_bits_deBruijn32tab), ("math/bits.deBruijn64tab", laid_math_bits_deBruijn64tab), ("internal/strconv.uint64pow10", laid_internal_strconv_uint64pow10), ("unicode/utf8.acceptRanges", laid_unicode_utf8_acceptRanges), ("combiner/fault.turns", laid_combiner_fault_turns), ("unicode/utf8.first", laid_unicode_utf8_first)], narrowed := true }
def FaultStringsUptoSaid : Prop := faultStringsUptoRow.holds Tryz.pinned (OpenSpec.upto faultStringsSpec)

/-- 'combinerlaw07.FaultNames', WHERE WHAT IT READS IS OF BULK AT MOST 1048576: true; the input reads as it did. -/
def faultNamesUptoRow : OpenClaim := { program := "ytifljcjddphpjaagreatdoor", sum := "f2b4dc613edf3fe629d3bf7fded2b762f31396189a13379c7076b3cf0f47bbd1", func := "combiner/combinerlaw07.FaultNames", spec := "faultNames", inPlace := ["math.Float64bits", "math.Float64frombits", "math.archFloor", "math.archTrunc", "internal/abi.NoEscape", "internal/bytealg.MakeNoZero", "internal/bytealg.IndexByteString", "internal/bytealg.CountString", "internal/bytealg.IndexString"], unfollowed := true, recurses := true, named := ["combiner/fault.turns", "internal/strconv.uint64pow10", "math/bits.deBruijn32tab", "math/bits.deBruijn64tab", "unicode/utf8.first", "unicode/utf8.acceptRanges", "internal/bytealg.MaxLen"], plainKeys := false, apart := false, laid := [("math/bits.deBruijn32tab", laid_math_bits_deBruijn32tab), ("math/bits.deBruijn64tab", laid_math_bits_deBruijn64tab), ("internal/strconv.uint64pow10", laid_internal_strconv_uint64pow10), ("unicode/utf8.acceptRanges", laid_unicode_utf8_acceptRanges), ("combiner/fault.turns", laid_combiner_fault_turns), ("unicode/utf8.first", laid_unicode_utf8_first)], narrowed := true }
def FaultNamesUptoSaid : Prop := faultNamesUptoRow.holds Tryz.pinned (OpenSpec.upto faultNamesSpec)

end Rows
end Go.Proofs.YtifljcjddphpjaaGreatDoor
