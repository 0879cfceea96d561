/-
  NARROWER THAN 'FOR EVERY INPUT', by the rows' own cells (each row's printed sentence says how): TopGlandNamed: laid · TopGlandShapes: laid · TopGlandShadows: laid · TopGlandSeen: laid.
  DERIVED. THE GIVEN ROWS OF THIS SEAT. 4 by the template 'for every input the law returns true; each argument reads behind the call as it read before'; 0 by the template 'total and deterministic' (their statements: YtjiidembdmfikaaGreatDoorTotals.lean).
  GIVEN WITH THE SEED: the statements are not yours to turn. If you find one false, say at which input.
  Laid BY PROGRAM, IN A SANDBOX (cutbox-rows.mjs): the forced cells as the released guide's own fill.sh prints them over the translation c78eff8b45cf6e62… (all of the seat's roots in one cut). By AI agents, Wed Nov 11 2026. No macro, syntax, notation, axiom, sorry.
-/
import Derived.Test.YtjiidembdmfikaaGreatDoorChecked
import GoSem.Claim
import GoSem.ClaimJoined
import GoSem.ClaimMapViews
import Derived.JoinedTies
import Derived.KernelRfl
namespace Go.Proofs.YtjiidembdmfikaaGreatDoor
/- THE CELL 'sum', in the pinned program and in every row, IS THE sha256 OF THE DUMP (.gsa) THAT YtjiidembdmfikaaGreatDoorProg.lean LOADS. Nothing in Lean hashes anything: it is a label: what it is worth is what the hold of that sum in a sandbox is worth. -/
noncomputable def Tryz.pinned : Pinned := { name := "ytjiidembdmfikaagreatdoor", sum := "c78eff8b45cf6e629fd0f21a0f91f28ef67d84e122e5a85b12103f39d8d49e95", checked := Tryz.checked }
namespace Rows
def none {H : Type} : Left H := { results := [], args := [] }

/- WHAT THE LISTED PACKAGE-LEVEL VARIABLES READ AS WHEN THE CALL BEGINS. Each datum BY PROGRAM (the guide's laid-datum.mjs) off the statement by which the dump's own 'gosem.cut.vars' lays the variable. In a bare row this is a premise. The card (YtjiidembdmfikaaGreatDoorCards.lean) ties it to the program's text. -/
def laid_combiner_curve_words {H : Type} : DataW H := .iface "func table" (.agg [.agg [.lit (.string [115, 97, 109, 101]), .iface "func" (.lit (.string [99, 111, 109, 98, 105, 110, 101, 114, 47, 99, 117, 114, 118, 101, 46, 119, 111, 114, 100, 115, 36, 49]))], .agg [.lit (.string [109, 111, 114, 101]), .iface "func" (.lit (.string [99, 111, 109, 98, 105, 110, 101, 114, 47, 99, 117, 114, 118, 101, 46, 119, 111, 114, 100, 115, 36, 50]))], .agg [.lit (.string [111, 112, 101, 110]), .iface "func" (.lit (.string [99, 111, 109, 98, 105, 110, 101, 114, 47, 99, 117, 114, 118, 101, 46, 119, 111, 114, 100, 115, 36, 51]))], .agg [.lit (.string [100, 97, 114, 107]), .iface "func" (.lit (.string [99, 111, 109, 98, 105, 110, 101, 114, 47, 99, 117, 114, 118, 101, 46, 119, 111, 114, 100, 115, 36, 52]))], .agg [.lit (.string [98, 121, 112, 97, 115, 115, 101, 100]), .iface "func" (.lit (.string [99, 111, 109, 98, 105, 110, 101, 114, 47, 99, 117, 114, 118, 101, 46, 119, 111, 114, 100, 115, 36, 53]))]])
def laid_combiner_fault_turns {H : Type} : DataW H := .iface "func table" (.agg [.agg [.lit (.string [110, 111, 110, 101]), .iface "func" (.lit (.string [99, 111, 109, 98, 105, 110, 101, 114, 47, 102, 97, 117, 108, 116, 46, 116, 117, 114, 110, 115, 36, 49]))], .agg [.lit (.string [111, 110, 101]), .iface "func" (.lit (.string [99, 111, 109, 98, 105, 110, 101, 114, 47, 102, 97, 117, 108, 116, 46, 116, 117, 114, 110, 115, 36, 50]))], .agg [.lit (.string [116, 119, 111]), .iface "func" (.lit (.string [99, 111, 109, 98, 105, 110, 101, 114, 47, 102, 97, 117, 108, 116, 46, 116, 117, 114, 110, 115, 36, 51]))], .agg [.lit (.string [116, 104, 114, 101, 101]), .iface "func" (.lit (.string [99, 111, 109, 98, 105, 110, 101, 114, 47, 102, 97, 117, 108, 116, 46, 116, 117, 114, 110, 115, 36, 52]))]])

/-- 'combinertop.TopGlandNamed': WHATEVER THE INPUT: true; the input reads as it did. -/
def topGlandNamedSpec : ChangeSpec := { name := "topGlandNamed", fn := fun _ => fun
  | [d] => { results := [.lit (.bool true)], args := [d] }
  | _ => none }
def topGlandNamedRow : OpenClaim := { program := "ytjiidembdmfikaagreatdoor", sum := "c78eff8b45cf6e629fd0f21a0f91f28ef67d84e122e5a85b12103f39d8d49e95", func := "combiner/combinertop.TopGlandNamed", spec := "topGlandNamed", unfollowed := true, recurses := true, named := ["combiner/curve.words"], plainKeys := false, apart := false, laid := [("combiner/curve.words", laid_combiner_curve_words)] }
def TopGlandNamedSaid : Prop := topGlandNamedRow.holds Tryz.pinned (OpenSpec.ofChange topGlandNamedSpec)

/-- ITS FALSE NEIGHBOUR: 'it returns false'. Refute it at one input. -/
def topGlandNamedWrong : ChangeSpec := { name := "topGlandNamed", fn := fun _ => fun
  | [d] => { results := [.lit (.bool false)], args := [d] }
  | _ => none }
def TopGlandNamedWrongFalsely : Prop := topGlandNamedRow.holds Tryz.pinned (OpenSpec.ofChange topGlandNamedWrong)

/-- 'combinertop.TopGlandShapes': WHATEVER THE INPUT: true; the input reads as it did. -/
def topGlandShapesSpec : ChangeSpec := { name := "topGlandShapes", fn := fun _ => fun
  | [d] => { results := [.lit (.bool true)], args := [d] }
  | _ => none }
def topGlandShapesRow : OpenClaim := { program := "ytjiidembdmfikaagreatdoor", sum := "c78eff8b45cf6e629fd0f21a0f91f28ef67d84e122e5a85b12103f39d8d49e95", func := "combiner/combinertop.TopGlandShapes", spec := "topGlandShapes", unfollowed := true, recurses := true, named := ["combiner/curve.words"], plainKeys := false, apart := false, laid := [("combiner/curve.words", laid_combiner_curve_words)] }
def TopGlandShapesSaid : Prop := topGlandShapesRow.holds Tryz.pinned (OpenSpec.ofChange topGlandShapesSpec)

/-- ITS FALSE NEIGHBOUR: 'it returns false'. Refute it at one input. -/
def topGlandShapesWrong : ChangeSpec := { name := "topGlandShapes", fn := fun _ => fun
  | [d] => { results := [.lit (.bool false)], args := [d] }
  | _ => none }
def TopGlandShapesWrongFalsely : Prop := topGlandShapesRow.holds Tryz.pinned (OpenSpec.ofChange topGlandShapesWrong)

/-- 'combinertop.TopGlandShadows': WHATEVER THE INPUT: true; the input reads as it did. -/
def topGlandShadowsSpec : ChangeSpec := { name := "topGlandShadows", fn := fun _ => fun
  | [d1, d2, d3] => { results := [.lit (.bool true)], args := [d1, d2, d3] }
  | _ => none }
def topGlandShadowsRow : OpenClaim := { program := "ytjiidembdmfikaagreatdoor", sum := "c78eff8b45cf6e629fd0f21a0f91f28ef67d84e122e5a85b12103f39d8d49e95", func := "combiner/combinertop.TopGlandShadows", spec := "topGlandShadows", unfollowed := true, recurses := true, named := ["combiner/curve.words"], plainKeys := false, apart := false, laid := [("combiner/curve.words", laid_combiner_curve_words)] }
def TopGlandShadowsSaid : Prop := topGlandShadowsRow.holds Tryz.pinned (OpenSpec.ofChange topGlandShadowsSpec)

/-- ITS FALSE NEIGHBOUR: 'it returns false'. Refute it at one input. -/
def topGlandShadowsWrong : ChangeSpec := { name := "topGlandShadows", fn := fun _ => fun
  | [d1, d2, d3] => { results := [.lit (.bool false)], args := [d1, d2, d3] }
  | _ => none }
def TopGlandShadowsWrongFalsely : Prop := topGlandShadowsRow.holds Tryz.pinned (OpenSpec.ofChange topGlandShadowsWrong)

/-- 'combinertop.TopGlandSeen': WHATEVER THE INPUT: true; the input reads as it did. -/
def topGlandSeenSpec : ChangeSpec := { name := "topGlandSeen", fn := fun _ => fun
  | [d1, d2, d3] => { results := [.lit (.bool true)], args := [d1, d2, d3] }
  | _ => none }
def topGlandSeenRow : OpenClaim := { program := "ytjiidembdmfikaagreatdoor", sum := "c78eff8b45cf6e629fd0f21a0f91f28ef67d84e122e5a85b12103f39d8d49e95", func := "combiner/combinertop.TopGlandSeen", spec := "topGlandSeen", inPlace := ["math.Float64bits", "math.Float64frombits", "math.archFloor", "math.archTrunc"], unfollowed := true, recurses := true, named := ["combiner/curve.words", "combiner/fault.turns"], plainKeys := false, apart := false, laid := [("combiner/curve.words", laid_combiner_curve_words), ("combiner/fault.turns", laid_combiner_fault_turns)] }
def TopGlandSeenSaid : Prop := topGlandSeenRow.holds Tryz.pinned (OpenSpec.ofChange topGlandSeenSpec)

/-- ITS FALSE NEIGHBOUR: 'it returns false'. Refute it at one input. -/
def topGlandSeenWrong : ChangeSpec := { name := "topGlandSeen", fn := fun _ => fun
  | [d1, d2, d3] => { results := [.lit (.bool false)], args := [d1, d2, d3] }
  | _ => none }
def TopGlandSeenWrongFalsely : Prop := topGlandSeenRow.holds Tryz.pinned (OpenSpec.ofChange topGlandSeenWrong)

/- THE SECOND FORM. 'bulk': how many values and letters a reading holds, each counted each time it is reached (what is shared counts as often as it is met; a slice's spare places count too). A statement '..UptoSaid' is the law's where the arguments, and the package variables that the reading takes, are together of bulk at most 1048576: NARROWER than '..Said'. Prove '..Said' where nothing that the law and all that it calls make is longer than what came in: it says more and counts as full. Else prove '..UptoSaid'. A law counts once. -/
mutual
def uptoBulk {H : Type} : DataW H → Nat
  | .lit (.string bytes) => bytes.length + 1
  | .lit _ => 1
  | .nil => 1
  | .ptr d => uptoBulk d + 1
  | .slice elems spare => uptoBulkAll elems + uptoBulkAll spare + 1
  | .agg parts => uptoBulkAll parts + 1
  | .iface _ d => uptoBulk d + 1
  | .map entries => uptoBulkEntries entries + 1
  | .held _ => 1
def uptoBulkAll {H : Type} : List (DataW H) → Nat
  | [] => 0
  | d :: r => uptoBulk d + uptoBulkAll r
def uptoBulkEntries {H : Type} : List (Lit × DataW H) → Nat
  | [] => 0
  | x :: r => uptoBulkEntry x + uptoBulkEntries r
def uptoBulkEntry {H : Type} : Lit × DataW H → Nat
  | (.string bytes, d) => bytes.length + uptoBulk d + 1
  | (_, d) => uptoBulk d + 1
 end
def uptoSmall : (H : Type) → List (DataW H) → Bool := fun _ ds => decide (uptoBulkAll ds ≤ 1048576)
def OpenSpec.upto (s : _root_.Go.ChangeSpec) : _root_.Go.OpenSpec := { _root_.Go.OpenSpec.ofChange s with cond := some uptoSmall }

/-- 'combinertop.TopGlandNamed', WHERE WHAT IT READS IS OF BULK AT MOST 1048576: true; the input reads as it did. -/
def topGlandNamedUptoRow : OpenClaim := { program := "ytjiidembdmfikaagreatdoor", sum := "c78eff8b45cf6e629fd0f21a0f91f28ef67d84e122e5a85b12103f39d8d49e95", func := "combiner/combinertop.TopGlandNamed", spec := "topGlandNamed", unfollowed := true, recurses := true, named := ["combiner/curve.words"], plainKeys := false, apart := false, laid := [("combiner/curve.words", laid_combiner_curve_words)], narrowed := true }
def TopGlandNamedUptoSaid : Prop := topGlandNamedUptoRow.holds Tryz.pinned (OpenSpec.upto topGlandNamedSpec)

/-- 'combinertop.TopGlandShapes', WHERE WHAT IT READS IS OF BULK AT MOST 1048576: true; the input reads as it did. -/
def topGlandShapesUptoRow : OpenClaim := { program := "ytjiidembdmfikaagreatdoor", sum := "c78eff8b45cf6e629fd0f21a0f91f28ef67d84e122e5a85b12103f39d8d49e95", func := "combiner/combinertop.TopGlandShapes", spec := "topGlandShapes", unfollowed := true, recurses := true, named := ["combiner/curve.words"], plainKeys := false, apart := false, laid := [("combiner/curve.words", laid_combiner_curve_words)], narrowed := true }
def TopGlandShapesUptoSaid : Prop := topGlandShapesUptoRow.holds Tryz.pinned (OpenSpec.upto topGlandShapesSpec)

/-- 'combinertop.TopGlandShadows', WHERE WHAT IT READS IS OF BULK AT MOST 1048576: true; the input reads as it did. -/
def topGlandShadowsUptoRow : OpenClaim := { program := "ytjiidembdmfikaagreatdoor", sum := "c78eff8b45cf6e629fd0f21a0f91f28ef67d84e122e5a85b12103f39d8d49e95", func := "combiner/combinertop.TopGlandShadows", spec := "topGlandShadows", unfollowed := true, recurses := true, named := ["combiner/curve.words"], plainKeys := false, apart := false, laid := [("combiner/curve.words", laid_combiner_curve_words)], narrowed := true }
def TopGlandShadowsUptoSaid : Prop := topGlandShadowsUptoRow.holds Tryz.pinned (OpenSpec.upto topGlandShadowsSpec)

/-- 'combinertop.TopGlandSeen', WHERE WHAT IT READS IS OF BULK AT MOST 1048576: true; the input reads as it did. -/
def topGlandSeenUptoRow : OpenClaim := { program := "ytjiidembdmfikaagreatdoor", sum := "c78eff8b45cf6e629fd0f21a0f91f28ef67d84e122e5a85b12103f39d8d49e95", func := "combiner/combinertop.TopGlandSeen", spec := "topGlandSeen", inPlace := ["math.Float64bits", "math.Float64frombits", "math.archFloor", "math.archTrunc"], unfollowed := true, recurses := true, named := ["combiner/curve.words", "combiner/fault.turns"], plainKeys := false, apart := false, laid := [("combiner/curve.words", laid_combiner_curve_words), ("combiner/fault.turns", laid_combiner_fault_turns)], narrowed := true }
def TopGlandSeenUptoSaid : Prop := topGlandSeenUptoRow.holds Tryz.pinned (OpenSpec.upto topGlandSeenSpec)

end Rows
end Go.Proofs.YtjiidembdmfikaaGreatDoor
