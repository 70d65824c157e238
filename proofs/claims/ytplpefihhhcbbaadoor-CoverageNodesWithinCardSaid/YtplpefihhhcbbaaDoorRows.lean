/-
  NARROWER THAN 'FOR EVERY INPUT', by the rows' own cells (each row's printed sentence says how): CoverageWorstWait: laid · CoverageLowerBoundValue: laid · CoverageLowerBound: laid · CoverageMonotonic: laid · CoverageDistrictNodes: laid · CoverageNodesWithin: laid · CoverageRemovalLoss: laid.
  DERIVED. THE GIVEN ROWS OF THIS SEAT. 7 by the template 'for every input the law returns true; each argument reads behind the call as it read before'; 0 by the template 'total and deterministic' (their statements: YtplpefihhhcbbaaDoorTotals.lean).
  GIVEN WITH THE SEED: the statements are not yours to turn. If you find one false, say at which input.
  Laid BY PROGRAM, IN A SANDBOX (cutbox-rows.mjs): the forced cells as the released guide's own fill.sh prints them over the translation 0accdda7cc2a18d7… (all of the seat's roots in one cut). By AI agents, Wed Nov 11 2026. No macro, syntax, notation, axiom, sorry.
-/
import Derived.Test.YtplpefihhhcbbaaDoorChecked
import GoSem.Claim
import GoSem.ClaimJoined
import GoSem.ClaimMapViews
import Derived.JoinedTies
import Derived.KernelRfl
namespace Go.Proofs.YtplpefihhhcbbaaDoor
/- THE CELL 'sum', in the pinned program and in every row, IS THE sha256 OF THE DUMP (.gsa) THAT YtplpefihhhcbbaaDoorProg.lean LOADS. Nothing in Lean hashes anything: it is a label: what it is worth is what the hold of that sum in a sandbox is worth. -/
noncomputable def Tryd.pinned : Pinned := { name := "ytplpefihhhcbbaadoor", sum := "0accdda7cc2a18d7ba099f741c88816a69834c4bf61e3269bb7541845b62b379", checked := Tryd.checked }
namespace Rows
def none {H : Type} : Left H := { results := [], args := [] }

/- WHAT THE LISTED PACKAGE-LEVEL VARIABLES READ AS WHEN THE CALL BEGINS. Each datum BY PROGRAM (the guide's laid-datum.mjs) off the statement by which the dump's own 'gosem.cut.vars' lays the variable. In a bare row this is a premise. The card (YtplpefihhhcbbaaDoorCards.lean) ties it to the program's text. -/
def laid_math_bits_deBruijn64tab {H : Type} : DataW H := .agg [.lit (.int .u8 0), .lit (.int .u8 1), .lit (.int .u8 56), .lit (.int .u8 2), .lit (.int .u8 57), .lit (.int .u8 49), .lit (.int .u8 28), .lit (.int .u8 3), .lit (.int .u8 61), .lit (.int .u8 58), .lit (.int .u8 42), .lit (.int .u8 50), .lit (.int .u8 38), .lit (.int .u8 29), .lit (.int .u8 17), .lit (.int .u8 4), .lit (.int .u8 62), .lit (.int .u8 47), .lit (.int .u8 59), .lit (.int .u8 36), .lit (.int .u8 45), .lit (.int .u8 43), .lit (.int .u8 51), .lit (.int .u8 22), .lit (.int .u8 53), .lit (.int .u8 39), .lit (.int .u8 33), .lit (.int .u8 30), .lit (.int .u8 24), .lit (.int .u8 18), .lit (.int .u8 12), .lit (.int .u8 5), .lit (.int .u8 63), .lit (.int .u8 55), .lit (.int .u8 48), .lit (.int .u8 27), .lit (.int .u8 60), .lit (.int .u8 41), .lit (.int .u8 37), .lit (.int .u8 16), .lit (.int .u8 46), .lit (.int .u8 35), .lit (.int .u8 44), .lit (.int .u8 21), .lit (.int .u8 52), .lit (.int .u8 32), .lit (.int .u8 23), .lit (.int .u8 11), .lit (.int .u8 54), .lit (.int .u8 26), .lit (.int .u8 40), .lit (.int .u8 15), .lit (.int .u8 34), .lit (.int .u8 20), .lit (.int .u8 31), .lit (.int .u8 10), .lit (.int .u8 25), .lit (.int .u8 14), .lit (.int .u8 19), .lit (.int .u8 9), .lit (.int .u8 13), .lit (.int .u8 8), .lit (.int .u8 7), .lit (.int .u8 6)]

/-- 'samaritanlaw39.CoverageWorstWait': WHATEVER THE INPUT: true; the input reads as it did. -/
def coverageWorstWaitSpec : ChangeSpec := { name := "coverageWorstWait", fn := fun _ => fun
  | [d1, d2] => { results := [.lit (.bool true)], args := [d1, d2] }
  | _ => none }
def coverageWorstWaitRow : OpenClaim := { program := "ytplpefihhhcbbaadoor", sum := "0accdda7cc2a18d7ba099f741c88816a69834c4bf61e3269bb7541845b62b379", func := "samaritan/samaritanlaw39.CoverageWorstWait", spec := "coverageWorstWait", unfollowed := true, recurses := true, named := ["math/bits.deBruijn64tab"], apart := false, laid := [("math/bits.deBruijn64tab", laid_math_bits_deBruijn64tab)] }
def CoverageWorstWaitSaid : Prop := coverageWorstWaitRow.holds Tryd.pinned (OpenSpec.ofChange coverageWorstWaitSpec)

/-- ITS FALSE NEIGHBOUR: 'it returns false'. Refute it at one input. -/
def coverageWorstWaitWrong : ChangeSpec := { name := "coverageWorstWait", fn := fun _ => fun
  | [d1, d2] => { results := [.lit (.bool false)], args := [d1, d2] }
  | _ => none }
def CoverageWorstWaitWrongFalsely : Prop := coverageWorstWaitRow.holds Tryd.pinned (OpenSpec.ofChange coverageWorstWaitWrong)

/-- 'samaritanlaw39.CoverageLowerBoundValue': WHATEVER THE INPUT: true; the input reads as it did. -/
def coverageLowerBoundValueSpec : ChangeSpec := { name := "coverageLowerBoundValue", fn := fun _ => fun
  | [d1, d2, d3] => { results := [.lit (.bool true)], args := [d1, d2, d3] }
  | _ => none }
def coverageLowerBoundValueRow : OpenClaim := { program := "ytplpefihhhcbbaadoor", sum := "0accdda7cc2a18d7ba099f741c88816a69834c4bf61e3269bb7541845b62b379", func := "samaritan/samaritanlaw39.CoverageLowerBoundValue", spec := "coverageLowerBoundValue", unfollowed := true, recurses := true, named := ["math/bits.deBruijn64tab"], apart := false, laid := [("math/bits.deBruijn64tab", laid_math_bits_deBruijn64tab)] }
def CoverageLowerBoundValueSaid : Prop := coverageLowerBoundValueRow.holds Tryd.pinned (OpenSpec.ofChange coverageLowerBoundValueSpec)

/-- ITS FALSE NEIGHBOUR: 'it returns false'. Refute it at one input. -/
def coverageLowerBoundValueWrong : ChangeSpec := { name := "coverageLowerBoundValue", fn := fun _ => fun
  | [d1, d2, d3] => { results := [.lit (.bool false)], args := [d1, d2, d3] }
  | _ => none }
def CoverageLowerBoundValueWrongFalsely : Prop := coverageLowerBoundValueRow.holds Tryd.pinned (OpenSpec.ofChange coverageLowerBoundValueWrong)

/-- 'samaritanlaw39.CoverageLowerBound': WHATEVER THE INPUT: true; the input reads as it did. -/
def coverageLowerBoundSpec : ChangeSpec := { name := "coverageLowerBound", fn := fun _ => fun
  | [d1, d2] => { results := [.lit (.bool true)], args := [d1, d2] }
  | _ => none }
def coverageLowerBoundRow : OpenClaim := { program := "ytplpefihhhcbbaadoor", sum := "0accdda7cc2a18d7ba099f741c88816a69834c4bf61e3269bb7541845b62b379", func := "samaritan/samaritanlaw39.CoverageLowerBound", spec := "coverageLowerBound", unfollowed := true, recurses := true, named := ["math/bits.deBruijn64tab"], apart := false, laid := [("math/bits.deBruijn64tab", laid_math_bits_deBruijn64tab)] }
def CoverageLowerBoundSaid : Prop := coverageLowerBoundRow.holds Tryd.pinned (OpenSpec.ofChange coverageLowerBoundSpec)

/-- ITS FALSE NEIGHBOUR: 'it returns false'. Refute it at one input. -/
def coverageLowerBoundWrong : ChangeSpec := { name := "coverageLowerBound", fn := fun _ => fun
  | [d1, d2] => { results := [.lit (.bool false)], args := [d1, d2] }
  | _ => none }
def CoverageLowerBoundWrongFalsely : Prop := coverageLowerBoundRow.holds Tryd.pinned (OpenSpec.ofChange coverageLowerBoundWrong)

/-- 'samaritanlaw39.CoverageMonotonic': WHATEVER THE INPUT: true; the input reads as it did. -/
def coverageMonotonicSpec : ChangeSpec := { name := "coverageMonotonic", fn := fun _ => fun
  | [d1, d2, d3] => { results := [.lit (.bool true)], args := [d1, d2, d3] }
  | _ => none }
def coverageMonotonicRow : OpenClaim := { program := "ytplpefihhhcbbaadoor", sum := "0accdda7cc2a18d7ba099f741c88816a69834c4bf61e3269bb7541845b62b379", func := "samaritan/samaritanlaw39.CoverageMonotonic", spec := "coverageMonotonic", unfollowed := true, recurses := true, named := ["math/bits.deBruijn64tab"], apart := false, laid := [("math/bits.deBruijn64tab", laid_math_bits_deBruijn64tab)] }
def CoverageMonotonicSaid : Prop := coverageMonotonicRow.holds Tryd.pinned (OpenSpec.ofChange coverageMonotonicSpec)

/-- ITS FALSE NEIGHBOUR: 'it returns false'. Refute it at one input. -/
def coverageMonotonicWrong : ChangeSpec := { name := "coverageMonotonic", fn := fun _ => fun
  | [d1, d2, d3] => { results := [.lit (.bool false)], args := [d1, d2, d3] }
  | _ => none }
def CoverageMonotonicWrongFalsely : Prop := coverageMonotonicRow.holds Tryd.pinned (OpenSpec.ofChange coverageMonotonicWrong)

/-- 'samaritanlaw39.CoverageDistrictNodes': WHATEVER THE INPUT: true; the input reads as it did. -/
def coverageDistrictNodesSpec : ChangeSpec := { name := "coverageDistrictNodes", fn := fun _ => fun
  | [d1, d2] => { results := [.lit (.bool true)], args := [d1, d2] }
  | _ => none }
def coverageDistrictNodesRow : OpenClaim := { program := "ytplpefihhhcbbaadoor", sum := "0accdda7cc2a18d7ba099f741c88816a69834c4bf61e3269bb7541845b62b379", func := "samaritan/samaritanlaw39.CoverageDistrictNodes", spec := "coverageDistrictNodes", unfollowed := true, recurses := true, named := ["math/bits.deBruijn64tab"], apart := false, laid := [("math/bits.deBruijn64tab", laid_math_bits_deBruijn64tab)] }
def CoverageDistrictNodesSaid : Prop := coverageDistrictNodesRow.holds Tryd.pinned (OpenSpec.ofChange coverageDistrictNodesSpec)

/-- ITS FALSE NEIGHBOUR: 'it returns false'. Refute it at one input. -/
def coverageDistrictNodesWrong : ChangeSpec := { name := "coverageDistrictNodes", fn := fun _ => fun
  | [d1, d2] => { results := [.lit (.bool false)], args := [d1, d2] }
  | _ => none }
def CoverageDistrictNodesWrongFalsely : Prop := coverageDistrictNodesRow.holds Tryd.pinned (OpenSpec.ofChange coverageDistrictNodesWrong)

/-- 'samaritanlaw39.CoverageNodesWithin': WHATEVER THE INPUT: true; the input reads as it did. -/
def coverageNodesWithinSpec : ChangeSpec := { name := "coverageNodesWithin", fn := fun _ => fun
  | [d1, d2, d3] => { results := [.lit (.bool true)], args := [d1, d2, d3] }
  | _ => none }
def coverageNodesWithinRow : OpenClaim := { program := "ytplpefihhhcbbaadoor", sum := "0accdda7cc2a18d7ba099f741c88816a69834c4bf61e3269bb7541845b62b379", func := "samaritan/samaritanlaw39.CoverageNodesWithin", spec := "coverageNodesWithin", unfollowed := true, recurses := true, named := ["math/bits.deBruijn64tab"], apart := false, laid := [("math/bits.deBruijn64tab", laid_math_bits_deBruijn64tab)] }
def CoverageNodesWithinSaid : Prop := coverageNodesWithinRow.holds Tryd.pinned (OpenSpec.ofChange coverageNodesWithinSpec)

/-- ITS FALSE NEIGHBOUR: 'it returns false'. Refute it at one input. -/
def coverageNodesWithinWrong : ChangeSpec := { name := "coverageNodesWithin", fn := fun _ => fun
  | [d1, d2, d3] => { results := [.lit (.bool false)], args := [d1, d2, d3] }
  | _ => none }
def CoverageNodesWithinWrongFalsely : Prop := coverageNodesWithinRow.holds Tryd.pinned (OpenSpec.ofChange coverageNodesWithinWrong)

/-- 'samaritanlaw39.CoverageRemovalLoss': WHATEVER THE INPUT: true; the input reads as it did. -/
def coverageRemovalLossSpec : ChangeSpec := { name := "coverageRemovalLoss", fn := fun _ => fun
  | [d1, d2, d3] => { results := [.lit (.bool true)], args := [d1, d2, d3] }
  | _ => none }
def coverageRemovalLossRow : OpenClaim := { program := "ytplpefihhhcbbaadoor", sum := "0accdda7cc2a18d7ba099f741c88816a69834c4bf61e3269bb7541845b62b379", func := "samaritan/samaritanlaw39.CoverageRemovalLoss", spec := "coverageRemovalLoss", unfollowed := true, recurses := true, named := ["math/bits.deBruijn64tab"], apart := false, laid := [("math/bits.deBruijn64tab", laid_math_bits_deBruijn64tab)] }
def CoverageRemovalLossSaid : Prop := coverageRemovalLossRow.holds Tryd.pinned (OpenSpec.ofChange coverageRemovalLossSpec)

/-- ITS FALSE NEIGHBOUR: 'it returns false'. Refute it at one input. -/
def coverageRemovalLossWrong : ChangeSpec := { name := "coverageRemovalLoss", fn := fun _ => fun
  | [d1, d2, d3] => { results := [.lit (.bool false)], args := [d1, d2, d3] }
  | _ => none }
def CoverageRemovalLossWrongFalsely : Prop := coverageRemovalLossRow.holds Tryd.pinned (OpenSpec.ofChange coverageRemovalLossWrong)

/- THE SECOND FORM. 'bulk': how many values and letters a reading holds, each counted each time it is reached (what is shared counts as often as it is met; a slice's spare places count too). A statement '..UptoSaid' is the law's where the arguments, and the package variables that the reading takes, are together of bulk at most 1048576: NARROWER than '..Said'. Prove '..Said' where nothing that the law and all that it calls make is longer than what came in: it says more and counts as full. Else prove '..UptoSaid'. A law counts once. -/
mutual
def uptoBulk {H : Type} : DataW H → Nat
  | .lit (.string bytes) => bytes.length + 1
  | .lit _ => 1
  | .nil => 1
  | .ptr d => uptoBulk d + 1
  | .slice elems spare => uptoBulkAll elems + uptoBulkAll spare + 1
  | .agg parts => uptoBulkAll parts + 1
  | .iface _ d => uptoBulk d + 1
  | .map entries => uptoBulkEntries entries + 1
  | .held _ => 1
def uptoBulkAll {H : Type} : List (DataW H) → Nat
  | [] => 0
  | d :: r => uptoBulk d + uptoBulkAll r
def uptoBulkEntries {H : Type} : List (Lit × DataW H) → Nat
  | [] => 0
  | x :: r => uptoBulkEntry x + uptoBulkEntries r
def uptoBulkEntry {H : Type} : Lit × DataW H → Nat
  | (.string bytes, d) => bytes.length + uptoBulk d + 1
  | (_, d) => uptoBulk d + 1
 end
def uptoSmall : (H : Type) → List (DataW H) → Bool := fun _ ds => decide (uptoBulkAll ds ≤ 1048576)
def OpenSpec.upto (s : _root_.Go.ChangeSpec) : _root_.Go.OpenSpec := { _root_.Go.OpenSpec.ofChange s with cond := some uptoSmall }

/-- 'samaritanlaw39.CoverageWorstWait', WHERE WHAT IT READS IS OF BULK AT MOST 1048576: true; the input reads as it did. -/
def coverageWorstWaitUptoRow : OpenClaim := { program := "ytplpefihhhcbbaadoor", sum := "0accdda7cc2a18d7ba099f741c88816a69834c4bf61e3269bb7541845b62b379", func := "samaritan/samaritanlaw39.CoverageWorstWait", spec := "coverageWorstWait", unfollowed := true, recurses := true, named := ["math/bits.deBruijn64tab"], apart := false, laid := [("math/bits.deBruijn64tab", laid_math_bits_deBruijn64tab)], narrowed := true }
def CoverageWorstWaitUptoSaid : Prop := coverageWorstWaitUptoRow.holds Tryd.pinned (OpenSpec.upto coverageWorstWaitSpec)

/-- 'samaritanlaw39.CoverageLowerBoundValue', WHERE WHAT IT READS IS OF BULK AT MOST 1048576: true; the input reads as it did. -/
def coverageLowerBoundValueUptoRow : OpenClaim := { program := "ytplpefihhhcbbaadoor", sum := "0accdda7cc2a18d7ba099f741c88816a69834c4bf61e3269bb7541845b62b379", func := "samaritan/samaritanlaw39.CoverageLowerBoundValue", spec := "coverageLowerBoundValue", unfollowed := true, recurses := true, named := ["math/bits.deBruijn64tab"], apart := false, laid := [("math/bits.deBruijn64tab", laid_math_bits_deBruijn64tab)], narrowed := true }
def CoverageLowerBoundValueUptoSaid : Prop := coverageLowerBoundValueUptoRow.holds Tryd.pinned (OpenSpec.upto coverageLowerBoundValueSpec)

/-- 'samaritanlaw39.CoverageLowerBound', WHERE WHAT IT READS IS OF BULK AT MOST 1048576: true; the input reads as it did. -/
def coverageLowerBoundUptoRow : OpenClaim := { program := "ytplpefihhhcbbaadoor", sum := "0accdda7cc2a18d7ba099f741c88816a69834c4bf61e3269bb7541845b62b379", func := "samaritan/samaritanlaw39.CoverageLowerBound", spec := "coverageLowerBound", unfollowed := true, recurses := true, named := ["math/bits.deBruijn64tab"], apart := false, laid := [("math/bits.deBruijn64tab", laid_math_bits_deBruijn64tab)], narrowed := true }
def CoverageLowerBoundUptoSaid : Prop := coverageLowerBoundUptoRow.holds Tryd.pinned (OpenSpec.upto coverageLowerBoundSpec)

/-- 'samaritanlaw39.CoverageMonotonic', WHERE WHAT IT READS IS OF BULK AT MOST 1048576: true; the input reads as it did. -/
def coverageMonotonicUptoRow : OpenClaim := { program := "ytplpefihhhcbbaadoor", sum := "0accdda7cc2a18d7ba099f741c88816a69834c4bf61e3269bb7541845b62b379", func := "samaritan/samaritanlaw39.CoverageMonotonic", spec := "coverageMonotonic", unfollowed := true, recurses := true, named := ["math/bits.deBruijn64tab"], apart := false, laid := [("math/bits.deBruijn64tab", laid_math_bits_deBruijn64tab)], narrowed := true }
def CoverageMonotonicUptoSaid : Prop := coverageMonotonicUptoRow.holds Tryd.pinned (OpenSpec.upto coverageMonotonicSpec)

/-- 'samaritanlaw39.CoverageDistrictNodes', WHERE WHAT IT READS IS OF BULK AT MOST 1048576: true; the input reads as it did. -/
def coverageDistrictNodesUptoRow : OpenClaim := { program := "ytplpefihhhcbbaadoor", sum := "0accdda7cc2a18d7ba099f741c88816a69834c4bf61e3269bb7541845b62b379", func := "samaritan/samaritanlaw39.CoverageDistrictNodes", spec := "coverageDistrictNodes", unfollowed := true, recurses := true, named := ["math/bits.deBruijn64tab"], apart := false, laid := [("math/bits.deBruijn64tab", laid_math_bits_deBruijn64tab)], narrowed := true }
def CoverageDistrictNodesUptoSaid : Prop := coverageDistrictNodesUptoRow.holds Tryd.pinned (OpenSpec.upto coverageDistrictNodesSpec)

/-- 'samaritanlaw39.CoverageNodesWithin', WHERE WHAT IT READS IS OF BULK AT MOST 1048576: true; the input reads as it did. -/
def coverageNodesWithinUptoRow : OpenClaim := { program := "ytplpefihhhcbbaadoor", sum := "0accdda7cc2a18d7ba099f741c88816a69834c4bf61e3269bb7541845b62b379", func := "samaritan/samaritanlaw39.CoverageNodesWithin", spec := "coverageNodesWithin", unfollowed := true, recurses := true, named := ["math/bits.deBruijn64tab"], apart := false, laid := [("math/bits.deBruijn64tab", laid_math_bits_deBruijn64tab)], narrowed := true }
def CoverageNodesWithinUptoSaid : Prop := coverageNodesWithinUptoRow.holds Tryd.pinned (OpenSpec.upto coverageNodesWithinSpec)

/-- 'samaritanlaw39.CoverageRemovalLoss', WHERE WHAT IT READS IS OF BULK AT MOST 1048576: true; the input reads as it did. -/
def coverageRemovalLossUptoRow : OpenClaim := { program := "ytplpefihhhcbbaadoor", sum := "0accdda7cc2a18d7ba099f741c88816a69834c4bf61e3269bb7541845b62b379", func := "samaritan/samaritanlaw39.CoverageRemovalLoss", spec := "coverageRemovalLoss", unfollowed := true, recurses := true, named := ["math/bits.deBruijn64tab"], apart := false, laid := [("math/bits.deBruijn64tab", laid_math_bits_deBruijn64tab)], narrowed := true }
def CoverageRemovalLossUptoSaid : Prop := coverageRemovalLossUptoRow.holds Tryd.pinned (OpenSpec.upto coverageRemovalLossSpec)

end Rows
end Go.Proofs.YtplpefihhhcbbaaDoor
