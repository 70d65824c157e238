/-
  No cell of these rows narrows 'for every input' (looked for: loops, veiled, ifaces, maps, wideKeys, modest, calm, conditions, laid).
  DERIVED. THE GIVEN ROWS OF THIS SEAT. 7 by the template 'for every input the law returns true; each argument reads behind the call as it read before'; 0 by the template 'total and deterministic' (their statements: YtakbmbmpcenljaaTotals.lean).
  GIVEN WITH THE SEED: the statements are not yours to turn. If you find one false, say at which input.
  Laid BY PROGRAM, IN A SANDBOX (cutbox-rows.mjs): the forced cells as the released guide's own fill.sh prints them over the translation 0610715277eb047b… (all of the seat's roots in one cut). By AI agents, Wed Nov 11 2026. No macro, syntax, notation, axiom, sorry.
-/
import Derived.Test.YtakbmbmpcenljaaChecked
import GoSem.Claim
import GoSem.ClaimJoined
import GoSem.ClaimMapViews
import Derived.JoinedTies
import Derived.KernelRfl
namespace Go.Proofs.Ytakbmbmpcenljaa
/- THE CELL 'sum', in the pinned program and in every row, IS THE sha256 OF THE DUMP (.gsa) THAT YtakbmbmpcenljaaProg.lean LOADS. Nothing in Lean hashes anything: it is a label: what it is worth is what the hold of that sum in a sandbox is worth. -/
noncomputable def Try.pinned : Pinned := { name := "ytakbmbmpcenljaa", sum := "0610715277eb047b38b026ee75b7e3795661f0c38accf3561a1cf36a754087db", checked := Try.checked }
namespace Rows
def none {H : Type} : Left H := { results := [], args := [] }

/-- 'samaritanlaw17.WaitQueueOrdered': WHATEVER THE INPUT: true; the input reads as it did. -/
def waitQueueOrderedSpec : ChangeSpec := { name := "waitQueueOrdered", fn := fun _ => fun
  | [d1, d2, d3] => { results := [.lit (.bool true)], args := [d1, d2, d3] }
  | _ => none }
def waitQueueOrderedRow : OpenClaim := { program := "ytakbmbmpcenljaa", sum := "0610715277eb047b38b026ee75b7e3795661f0c38accf3561a1cf36a754087db", func := "samaritan/samaritanlaw17.WaitQueueOrdered", spec := "waitQueueOrdered", unfollowed := true, recurses := true, apart := false }
def WaitQueueOrderedSaid : Prop := waitQueueOrderedRow.holds Try.pinned (OpenSpec.ofChange waitQueueOrderedSpec)

/-- ITS FALSE NEIGHBOUR: 'it returns false'. Refute it at one input. -/
def waitQueueOrderedWrong : ChangeSpec := { name := "waitQueueOrdered", fn := fun _ => fun
  | [d1, d2, d3] => { results := [.lit (.bool false)], args := [d1, d2, d3] }
  | _ => none }
def WaitQueueOrderedWrongFalsely : Prop := waitQueueOrderedRow.holds Try.pinned (OpenSpec.ofChange waitQueueOrderedWrong)

/-- 'samaritanlaw17.WaitQueuePosition': WHATEVER THE INPUT: true; the input reads as it did. -/
def waitQueuePositionSpec : ChangeSpec := { name := "waitQueuePosition", fn := fun _ => fun
  | [d1, d2, d3] => { results := [.lit (.bool true)], args := [d1, d2, d3] }
  | _ => none }
def waitQueuePositionRow : OpenClaim := { program := "ytakbmbmpcenljaa", sum := "0610715277eb047b38b026ee75b7e3795661f0c38accf3561a1cf36a754087db", func := "samaritan/samaritanlaw17.WaitQueuePosition", spec := "waitQueuePosition", unfollowed := true, recurses := true, apart := false }
def WaitQueuePositionSaid : Prop := waitQueuePositionRow.holds Try.pinned (OpenSpec.ofChange waitQueuePositionSpec)

/-- ITS FALSE NEIGHBOUR: 'it returns false'. Refute it at one input. -/
def waitQueuePositionWrong : ChangeSpec := { name := "waitQueuePosition", fn := fun _ => fun
  | [d1, d2, d3] => { results := [.lit (.bool false)], args := [d1, d2, d3] }
  | _ => none }
def WaitQueuePositionWrongFalsely : Prop := waitQueuePositionRow.holds Try.pinned (OpenSpec.ofChange waitQueuePositionWrong)

/-- 'samaritanlaw17.WaitQueueOverflow': WHATEVER THE INPUT: true; the input reads as it did. -/
def waitQueueOverflowSpec : ChangeSpec := { name := "waitQueueOverflow", fn := fun _ => fun
  | [d1, d2, d3] => { results := [.lit (.bool true)], args := [d1, d2, d3] }
  | _ => none }
def waitQueueOverflowRow : OpenClaim := { program := "ytakbmbmpcenljaa", sum := "0610715277eb047b38b026ee75b7e3795661f0c38accf3561a1cf36a754087db", func := "samaritan/samaritanlaw17.WaitQueueOverflow", spec := "waitQueueOverflow", unfollowed := true, recurses := true, apart := false }
def WaitQueueOverflowSaid : Prop := waitQueueOverflowRow.holds Try.pinned (OpenSpec.ofChange waitQueueOverflowSpec)

/-- ITS FALSE NEIGHBOUR: 'it returns false'. Refute it at one input. -/
def waitQueueOverflowWrong : ChangeSpec := { name := "waitQueueOverflow", fn := fun _ => fun
  | [d1, d2, d3] => { results := [.lit (.bool false)], args := [d1, d2, d3] }
  | _ => none }
def WaitQueueOverflowWrongFalsely : Prop := waitQueueOverflowRow.holds Try.pinned (OpenSpec.ofChange waitQueueOverflowWrong)

/-- 'samaritanlaw17.WaitQueueAging': WHATEVER THE INPUT: true; the input reads as it did. -/
def waitQueueAgingSpec : ChangeSpec := { name := "waitQueueAging", fn := fun _ => fun
  | [d1, d2, d3] => { results := [.lit (.bool true)], args := [d1, d2, d3] }
  | _ => none }
def waitQueueAgingRow : OpenClaim := { program := "ytakbmbmpcenljaa", sum := "0610715277eb047b38b026ee75b7e3795661f0c38accf3561a1cf36a754087db", func := "samaritan/samaritanlaw17.WaitQueueAging", spec := "waitQueueAging", unfollowed := true, recurses := true, apart := false }
def WaitQueueAgingSaid : Prop := waitQueueAgingRow.holds Try.pinned (OpenSpec.ofChange waitQueueAgingSpec)

/-- ITS FALSE NEIGHBOUR: 'it returns false'. Refute it at one input. -/
def waitQueueAgingWrong : ChangeSpec := { name := "waitQueueAging", fn := fun _ => fun
  | [d1, d2, d3] => { results := [.lit (.bool false)], args := [d1, d2, d3] }
  | _ => none }
def WaitQueueAgingWrongFalsely : Prop := waitQueueAgingRow.holds Try.pinned (OpenSpec.ofChange waitQueueAgingWrong)

/-- 'samaritanlaw17.WaitQueueFair': WHATEVER THE INPUT: true; the input reads as it did. -/
def waitQueueFairSpec : ChangeSpec := { name := "waitQueueFair", fn := fun _ => fun
  | [d1, d2, d3] => { results := [.lit (.bool true)], args := [d1, d2, d3] }
  | _ => none }
def waitQueueFairRow : OpenClaim := { program := "ytakbmbmpcenljaa", sum := "0610715277eb047b38b026ee75b7e3795661f0c38accf3561a1cf36a754087db", func := "samaritan/samaritanlaw17.WaitQueueFair", spec := "waitQueueFair", unfollowed := true, recurses := true, apart := false }
def WaitQueueFairSaid : Prop := waitQueueFairRow.holds Try.pinned (OpenSpec.ofChange waitQueueFairSpec)

/-- ITS FALSE NEIGHBOUR: 'it returns false'. Refute it at one input. -/
def waitQueueFairWrong : ChangeSpec := { name := "waitQueueFair", fn := fun _ => fun
  | [d1, d2, d3] => { results := [.lit (.bool false)], args := [d1, d2, d3] }
  | _ => none }
def WaitQueueFairWrongFalsely : Prop := waitQueueFairRow.holds Try.pinned (OpenSpec.ofChange waitQueueFairWrong)

/-- 'samaritanlaw17.WaitQueueInsertionOrder': WHATEVER THE INPUT: true; the input reads as it did. -/
def waitQueueInsertionOrderSpec : ChangeSpec := { name := "waitQueueInsertionOrder", fn := fun _ => fun
  | [d1, d2, d3] => { results := [.lit (.bool true)], args := [d1, d2, d3] }
  | _ => none }
def waitQueueInsertionOrderRow : OpenClaim := { program := "ytakbmbmpcenljaa", sum := "0610715277eb047b38b026ee75b7e3795661f0c38accf3561a1cf36a754087db", func := "samaritan/samaritanlaw17.WaitQueueInsertionOrder", spec := "waitQueueInsertionOrder", unfollowed := true, recurses := true, apart := false }
def WaitQueueInsertionOrderSaid : Prop := waitQueueInsertionOrderRow.holds Try.pinned (OpenSpec.ofChange waitQueueInsertionOrderSpec)

/-- ITS FALSE NEIGHBOUR: 'it returns false'. Refute it at one input. -/
def waitQueueInsertionOrderWrong : ChangeSpec := { name := "waitQueueInsertionOrder", fn := fun _ => fun
  | [d1, d2, d3] => { results := [.lit (.bool false)], args := [d1, d2, d3] }
  | _ => none }
def WaitQueueInsertionOrderWrongFalsely : Prop := waitQueueInsertionOrderRow.holds Try.pinned (OpenSpec.ofChange waitQueueInsertionOrderWrong)

/-- 'samaritanlaw17.WaitQueueErrors': WHATEVER THE INPUT: true; the input reads as it did. -/
def waitQueueErrorsSpec : ChangeSpec := { name := "waitQueueErrors", fn := fun _ => fun
  | [d1, d2, d3] => { results := [.lit (.bool true)], args := [d1, d2, d3] }
  | _ => none }
def waitQueueErrorsRow : OpenClaim := { program := "ytakbmbmpcenljaa", sum := "0610715277eb047b38b026ee75b7e3795661f0c38accf3561a1cf36a754087db", func := "samaritan/samaritanlaw17.WaitQueueErrors", spec := "waitQueueErrors", unfollowed := true, recurses := true, apart := false }
def WaitQueueErrorsSaid : Prop := waitQueueErrorsRow.holds Try.pinned (OpenSpec.ofChange waitQueueErrorsSpec)

/-- ITS FALSE NEIGHBOUR: 'it returns false'. Refute it at one input. -/
def waitQueueErrorsWrong : ChangeSpec := { name := "waitQueueErrors", fn := fun _ => fun
  | [d1, d2, d3] => { results := [.lit (.bool false)], args := [d1, d2, d3] }
  | _ => none }
def WaitQueueErrorsWrongFalsely : Prop := waitQueueErrorsRow.holds Try.pinned (OpenSpec.ofChange waitQueueErrorsWrong)

/- THE SECOND FORM. 'bulk': how many values and letters a reading holds, each counted each time it is reached (what is shared counts as often as it is met; a slice's spare places count too). A statement '..UptoSaid' is the law's where the arguments, and the package variables that the reading takes, are together of bulk at most 1048576: NARROWER than '..Said'. Prove '..Said' where nothing that the law and all that it calls make is longer than what came in: it says more and counts as full. Else prove '..UptoSaid'. A law counts once. -/
mutual
def uptoBulk {H : Type} : DataW H → Nat
  | .lit (.string bytes) => bytes.length + 1
  | .lit _ => 1
  | .nil => 1
  | .ptr d => uptoBulk d + 1
  | .slice elems spare => uptoBulkAll elems + uptoBulkAll spare + 1
  | .agg parts => uptoBulkAll parts + 1
  | .iface _ d => uptoBulk d + 1
  | .map entries => uptoBulkEntries entries + 1
  | .held _ => 1
def uptoBulkAll {H : Type} : List (DataW H) → Nat
  | [] => 0
  | d :: r => uptoBulk d + uptoBulkAll r
def uptoBulkEntries {H : Type} : List (Lit × DataW H) → Nat
  | [] => 0
  | x :: r => uptoBulkEntry x + uptoBulkEntries r
def uptoBulkEntry {H : Type} : Lit × DataW H → Nat
  | (.string bytes, d) => bytes.length + uptoBulk d + 1
  | (_, d) => uptoBulk d + 1
 end
def uptoSmall : (H : Type) → List (DataW H) → Bool := fun _ ds => decide (uptoBulkAll ds ≤ 1048576)
def OpenSpec.upto (s : _root_.Go.ChangeSpec) : _root_.Go.OpenSpec := { _root_.Go.OpenSpec.ofChange s with cond := some uptoSmall }

/-- 'samaritanlaw17.WaitQueueOrdered', WHERE WHAT IT READS IS OF BULK AT MOST 1048576: true; the input reads as it did. -/
def waitQueueOrderedUptoRow : OpenClaim := { program := "ytakbmbmpcenljaa", sum := "0610715277eb047b38b026ee75b7e3795661f0c38accf3561a1cf36a754087db", func := "samaritan/samaritanlaw17.WaitQueueOrdered", spec := "waitQueueOrdered", unfollowed := true, recurses := true, apart := false, narrowed := true }
def WaitQueueOrderedUptoSaid : Prop := waitQueueOrderedUptoRow.holds Try.pinned (OpenSpec.upto waitQueueOrderedSpec)

/-- 'samaritanlaw17.WaitQueuePosition', WHERE WHAT IT READS IS OF BULK AT MOST 1048576: true; the input reads as it did. -/
def waitQueuePositionUptoRow : OpenClaim := { program := "ytakbmbmpcenljaa", sum := "0610715277eb047b38b026ee75b7e3795661f0c38accf3561a1cf36a754087db", func := "samaritan/samaritanlaw17.WaitQueuePosition", spec := "waitQueuePosition", unfollowed := true, recurses := true, apart := false, narrowed := true }
def WaitQueuePositionUptoSaid : Prop := waitQueuePositionUptoRow.holds Try.pinned (OpenSpec.upto waitQueuePositionSpec)

/-- 'samaritanlaw17.WaitQueueOverflow', WHERE WHAT IT READS IS OF BULK AT MOST 1048576: true; the input reads as it did. -/
def waitQueueOverflowUptoRow : OpenClaim := { program := "ytakbmbmpcenljaa", sum := "0610715277eb047b38b026ee75b7e3795661f0c38accf3561a1cf36a754087db", func := "samaritan/samaritanlaw17.WaitQueueOverflow", spec := "waitQueueOverflow", unfollowed := true, recurses := true, apart := false, narrowed := true }
def WaitQueueOverflowUptoSaid : Prop := waitQueueOverflowUptoRow.holds Try.pinned (OpenSpec.upto waitQueueOverflowSpec)

/-- 'samaritanlaw17.WaitQueueAging', WHERE WHAT IT READS IS OF BULK AT MOST 1048576: true; the input reads as it did. -/
def waitQueueAgingUptoRow : OpenClaim := { program := "ytakbmbmpcenljaa", sum := "0610715277eb047b38b026ee75b7e3795661f0c38accf3561a1cf36a754087db", func := "samaritan/samaritanlaw17.WaitQueueAging", spec := "waitQueueAging", unfollowed := true, recurses := true, apart := false, narrowed := true }
def WaitQueueAgingUptoSaid : Prop := waitQueueAgingUptoRow.holds Try.pinned (OpenSpec.upto waitQueueAgingSpec)

/-- 'samaritanlaw17.WaitQueueFair', WHERE WHAT IT READS IS OF BULK AT MOST 1048576: true; the input reads as it did. -/
def waitQueueFairUptoRow : OpenClaim := { program := "ytakbmbmpcenljaa", sum := "0610715277eb047b38b026ee75b7e3795661f0c38accf3561a1cf36a754087db", func := "samaritan/samaritanlaw17.WaitQueueFair", spec := "waitQueueFair", unfollowed := true, recurses := true, apart := false, narrowed := true }
def WaitQueueFairUptoSaid : Prop := waitQueueFairUptoRow.holds Try.pinned (OpenSpec.upto waitQueueFairSpec)

/-- 'samaritanlaw17.WaitQueueInsertionOrder', WHERE WHAT IT READS IS OF BULK AT MOST 1048576: true; the input reads as it did. -/
def waitQueueInsertionOrderUptoRow : OpenClaim := { program := "ytakbmbmpcenljaa", sum := "0610715277eb047b38b026ee75b7e3795661f0c38accf3561a1cf36a754087db", func := "samaritan/samaritanlaw17.WaitQueueInsertionOrder", spec := "waitQueueInsertionOrder", unfollowed := true, recurses := true, apart := false, narrowed := true }
def WaitQueueInsertionOrderUptoSaid : Prop := waitQueueInsertionOrderUptoRow.holds Try.pinned (OpenSpec.upto waitQueueInsertionOrderSpec)

/-- 'samaritanlaw17.WaitQueueErrors', WHERE WHAT IT READS IS OF BULK AT MOST 1048576: true; the input reads as it did. -/
def waitQueueErrorsUptoRow : OpenClaim := { program := "ytakbmbmpcenljaa", sum := "0610715277eb047b38b026ee75b7e3795661f0c38accf3561a1cf36a754087db", func := "samaritan/samaritanlaw17.WaitQueueErrors", spec := "waitQueueErrors", unfollowed := true, recurses := true, apart := false, narrowed := true }
def WaitQueueErrorsUptoSaid : Prop := waitQueueErrorsUptoRow.holds Try.pinned (OpenSpec.upto waitQueueErrorsSpec)

end Rows
end Go.Proofs.Ytakbmbmpcenljaa
