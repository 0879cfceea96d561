/-
  NARROWER THAN 'FOR EVERY INPUT', by the rows' own cells (each row's printed sentence says how): TopClampVisited: laid · TopClampRepaired: laid.
  DERIVED. THE GIVEN ROWS OF THIS SEAT. 2 by the template 'for every input the law returns true; each argument reads behind the call as it read before'; 0 by the template 'total and deterministic' (their statements: YteeikdgoeehhkaaGreatDoorTotals.lean).
  GIVEN WITH THE SEED: the statements are not yours to turn. If you find one false, say at which input.
  Laid BY PROGRAM, IN A SANDBOX (cutbox-rows.mjs): the forced cells as the released guide's own fill.sh prints them over the translation f3ecb0313fd6adcf… (all of the seat's roots in one cut). By AI agents, Wed Nov 11 2026. No macro, syntax, notation, axiom, sorry.
-/
import Derived.Test.YteeikdgoeehhkaaGreatDoorChecked
import GoSem.Claim
import GoSem.ClaimJoined
import GoSem.ClaimMapViews
import Derived.JoinedTies
import Derived.KernelRfl
namespace Go.Proofs.YteeikdgoeehhkaaGreatDoor
/- THE CELL 'sum', in the pinned program and in every row, IS THE sha256 OF THE DUMP (.gsa) THAT YteeikdgoeehhkaaGreatDoorProg.lean LOADS. Nothing in Lean hashes anything: it is a label: what it is worth is what the hold of that sum in a sandbox is worth. -/
noncomputable def Tryz.pinned : Pinned := { name := "yteeikdgoeehhkaagreatdoor", sum := "f3ecb0313fd6adcfa6efd17ae0b8c7546f82c36334e8d246cffdfc8df673e956", checked := Tryz.checked }
namespace Rows
def none {H : Type} : Left H := { results := [], args := [] }

/- WHAT THE LISTED PACKAGE-LEVEL VARIABLES READ AS WHEN THE CALL BEGINS. Each datum BY PROGRAM (the guide's laid-datum.mjs) off the statement by which the dump's own 'gosem.cut.vars' lays the variable. In a bare row this is a premise. The card (YteeikdgoeehhkaaGreatDoorCards.lean) ties it to the program's text. -/
def laid_combiner_fault_turns {H : Type} : DataW H := .iface "func table" (.agg [.agg [.lit (.string [110, 111, 110, 101]), .iface "func" (.lit (.string [99, 111, 109, 98, 105, 110, 101, 114, 47, 102, 97, 117, 108, 116, 46, 116, 117, 114, 110, 115, 36, 49]))], .agg [.lit (.string [111, 110, 101]), .iface "func" (.lit (.string [99, 111, 109, 98, 105, 110, 101, 114, 47, 102, 97, 117, 108, 116, 46, 116, 117, 114, 110, 115, 36, 50]))], .agg [.lit (.string [116, 119, 111]), .iface "func" (.lit (.string [99, 111, 109, 98, 105, 110, 101, 114, 47, 102, 97, 117, 108, 116, 46, 116, 117, 114, 110, 115, 36, 51]))], .agg [.lit (.string [116, 104, 114, 101, 101]), .iface "func" (.lit (.string [99, 111, 109, 98, 105, 110, 101, 114, 47, 102, 97, 117, 108, 116, 46, 116, 117, 114, 110, 115, 36, 52]))]])
def laid_combiner_wash_criteria {H : Type} : DataW H := .iface "func table" (.agg [.agg [.lit (.string [119, 111, 114, 116, 104]), .iface "func" (.lit (.string [99, 111, 109, 98, 105, 110, 101, 114, 47, 119, 97, 115, 104, 46, 99, 114, 105, 116, 101, 114, 105, 97, 36, 49]))], .agg [.lit (.string [110, 117, 109, 98, 101, 114]), .iface "func" (.lit (.string [99, 111, 109, 98, 105, 110, 101, 114, 47, 119, 97, 115, 104, 46, 99, 114, 105, 116, 101, 114, 105, 97, 36, 50]))], .agg [.lit (.string [102, 105, 114, 115, 116]), .iface "func" (.lit (.string [99, 111, 109, 98, 105, 110, 101, 114, 47, 119, 97, 115, 104, 46, 99, 114, 105, 116, 101, 114, 105, 97, 36, 51]))]])

/-- 'combinertop.TopClampVisited': WHATEVER THE INPUT: true; the input reads as it did. -/
def topClampVisitedSpec : ChangeSpec := { name := "topClampVisited", fn := fun _ => fun
  | [d] => { results := [.lit (.bool true)], args := [d] }
  | _ => none }
def topClampVisitedRow : OpenClaim := { program := "yteeikdgoeehhkaagreatdoor", sum := "f3ecb0313fd6adcfa6efd17ae0b8c7546f82c36334e8d246cffdfc8df673e956", func := "combiner/combinertop.TopClampVisited", spec := "topClampVisited", unfollowed := true, recurses := true, named := ["combiner/wash.criteria", "combiner/fault.turns"], plainKeys := false, apart := false, laid := [("combiner/fault.turns", laid_combiner_fault_turns), ("combiner/wash.criteria", laid_combiner_wash_criteria)] }
def TopClampVisitedSaid : Prop := topClampVisitedRow.holds Tryz.pinned (OpenSpec.ofChange topClampVisitedSpec)

/-- ITS FALSE NEIGHBOUR: 'it returns false'. Refute it at one input. -/
def topClampVisitedWrong : ChangeSpec := { name := "topClampVisited", fn := fun _ => fun
  | [d] => { results := [.lit (.bool false)], args := [d] }
  | _ => none }
def TopClampVisitedWrongFalsely : Prop := topClampVisitedRow.holds Tryz.pinned (OpenSpec.ofChange topClampVisitedWrong)

/-- 'combinertop.TopClampRepaired': WHATEVER THE INPUT: true; the input reads as it did. -/
def topClampRepairedSpec : ChangeSpec := { name := "topClampRepaired", fn := fun _ => fun
  | [d] => { results := [.lit (.bool true)], args := [d] }
  | _ => none }
def topClampRepairedRow : OpenClaim := { program := "yteeikdgoeehhkaagreatdoor", sum := "f3ecb0313fd6adcfa6efd17ae0b8c7546f82c36334e8d246cffdfc8df673e956", func := "combiner/combinertop.TopClampRepaired", spec := "topClampRepaired", unfollowed := true, recurses := true, named := ["combiner/wash.criteria"], plainKeys := false, apart := false, laid := [("combiner/wash.criteria", laid_combiner_wash_criteria)] }
def TopClampRepairedSaid : Prop := topClampRepairedRow.holds Tryz.pinned (OpenSpec.ofChange topClampRepairedSpec)

/-- ITS FALSE NEIGHBOUR: 'it returns false'. Refute it at one input. -/
def topClampRepairedWrong : ChangeSpec := { name := "topClampRepaired", fn := fun _ => fun
  | [d] => { results := [.lit (.bool false)], args := [d] }
  | _ => none }
def TopClampRepairedWrongFalsely : Prop := topClampRepairedRow.holds Tryz.pinned (OpenSpec.ofChange topClampRepairedWrong)

/- THE SECOND FORM. 'bulk': how many values and letters a reading holds, each counted each time it is reached (what is shared counts as often as it is met; a slice's spare places count too). A statement '..UptoSaid' is the law's where the arguments, and the package variables that the reading takes, are together of bulk at most 1048576: NARROWER than '..Said'. Prove '..Said' where nothing that the law and all that it calls make is longer than what came in: it says more and counts as full. Else prove '..UptoSaid'. A law counts once. -/
mutual
def uptoBulk {H : Type} : DataW H → Nat
  | .lit (.string bytes) => bytes.length + 1
  | .lit _ => 1
  | .nil => 1
  | .ptr d => uptoBulk d + 1
  | .slice elems spare => uptoBulkAll elems + uptoBulkAll spare + 1
  | .agg parts => uptoBulkAll parts + 1
  | .iface _ d => uptoBulk d + 1
  | .map entries => uptoBulkEntries entries + 1
  | .held _ => 1
def uptoBulkAll {H : Type} : List (DataW H) → Nat
  | [] => 0
  | d :: r => uptoBulk d + uptoBulkAll r
def uptoBulkEntries {H : Type} : List (Lit × DataW H) → Nat
  | [] => 0
  | x :: r => uptoBulkEntry x + uptoBulkEntries r
def uptoBulkEntry {H : Type} : Lit × DataW H → Nat
  | (.string bytes, d) => bytes.length + uptoBulk d + 1
  | (_, d) => uptoBulk d + 1
 end
def uptoSmall : (H : Type) → List (DataW H) → Bool := fun _ ds => decide (uptoBulkAll ds ≤ 1048576)
def OpenSpec.upto (s : _root_.Go.ChangeSpec) : _root_.Go.OpenSpec := { _root_.Go.OpenSpec.ofChange s with cond := some uptoSmall }

/-- 'combinertop.TopClampVisited', WHERE WHAT IT READS IS OF BULK AT MOST 1048576: true; the input reads as it did. -/
def topClampVisitedUptoRow : OpenClaim := { program := "yteeikdgoeehhkaagreatdoor", sum := "f3ecb0313fd6adcfa6efd17ae0b8c7546f82c36334e8d246cffdfc8df673e956", func := "combiner/combinertop.TopClampVisited", spec := "topClampVisited", unfollowed := true, recurses := true, named := ["combiner/wash.criteria", "combiner/fault.turns"], plainKeys := false, apart := false, laid := [("combiner/fault.turns", laid_combiner_fault_turns), ("combiner/wash.criteria", laid_combiner_wash_criteria)], narrowed := true }
def TopClampVisitedUptoSaid : Prop := topClampVisitedUptoRow.holds Tryz.pinned (OpenSpec.upto topClampVisitedSpec)

/-- 'combinertop.TopClampRepaired', WHERE WHAT IT READS IS OF BULK AT MOST 1048576: true; the input reads as it did. -/
def topClampRepairedUptoRow : OpenClaim := { program := "yteeikdgoeehhkaagreatdoor", sum := "f3ecb0313fd6adcfa6efd17ae0b8c7546f82c36334e8d246cffdfc8df673e956", func := "combiner/combinertop.TopClampRepaired", spec := "topClampRepaired", unfollowed := true, recurses := true, named := ["combiner/wash.criteria"], plainKeys := false, apart := false, laid := [("combiner/wash.criteria", laid_combiner_wash_criteria)], narrowed := true }
def TopClampRepairedUptoSaid : Prop := topClampRepairedUptoRow.holds Tryz.pinned (OpenSpec.upto topClampRepairedSpec)

end Rows
end Go.Proofs.YteeikdgoeehhkaaGreatDoor
