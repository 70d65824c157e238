/-
  No cell of these rows narrows 'for every input' (looked for: loops, veiled, ifaces, maps, wideKeys, modest, calm, conditions, laid).
  DERIVED. THE GIVEN ROWS OF THIS SEAT. 6 by the template 'for every input the law returns true; each argument reads behind the call as it read before'; 0 by the template 'total and deterministic' (their statements: YtofigelofojjlaaTotals.lean).
  GIVEN WITH THE SEED: the statements are not yours to turn. If you find one false, say at which input.
  Laid BY PROGRAM, IN A SANDBOX (cutbox-rows.mjs): the forced cells as the released guide's own fill.sh prints them over the translation 659fc1c2a83b8b22… (all of the seat's roots in one cut). By AI agents, Wed Nov 11 2026. No macro, syntax, notation, axiom, sorry.
-/
import Derived.Test.YtofigelofojjlaaChecked
import GoSem.Claim
import GoSem.ClaimJoined
import GoSem.ClaimMapViews
import Derived.JoinedTies
import Derived.KernelRfl
namespace Go.Proofs.Ytofigelofojjlaa
/- THE CELL 'sum', in the pinned program and in every row, IS THE sha256 OF THE DUMP (.gsa) THAT YtofigelofojjlaaProg.lean LOADS. Nothing in Lean hashes anything: it is a label: what it is worth is what the hold of that sum in a sandbox is worth. -/
noncomputable def Try.pinned : Pinned := { name := "ytofigelofojjlaa", sum := "659fc1c2a83b8b224395412119eea977cfd0fa41b35d04fa5ce33574658f11ba", checked := Try.checked }
namespace Rows
def none {H : Type} : Left H := { results := [], args := [] }

/-- 'samaritanlaw03.HeapPopOrder': WHATEVER THE INPUT: true; the input reads as it did. -/
def heapPopOrderSpec : ChangeSpec := { name := "heapPopOrder", fn := fun _ => fun
  | [d] => { results := [.lit (.bool true)], args := [d] }
  | _ => none }
def heapPopOrderRow : OpenClaim := { program := "ytofigelofojjlaa", sum := "659fc1c2a83b8b224395412119eea977cfd0fa41b35d04fa5ce33574658f11ba", func := "samaritan/samaritanlaw03.HeapPopOrder", spec := "heapPopOrder", apart := false }
def HeapPopOrderSaid : Prop := heapPopOrderRow.holds Try.pinned (OpenSpec.ofChange heapPopOrderSpec)

/-- ITS FALSE NEIGHBOUR: 'it returns false'. Refute it at one input. -/
def heapPopOrderWrong : ChangeSpec := { name := "heapPopOrder", fn := fun _ => fun
  | [d] => { results := [.lit (.bool false)], args := [d] }
  | _ => none }
def HeapPopOrderWrongFalsely : Prop := heapPopOrderRow.holds Try.pinned (OpenSpec.ofChange heapPopOrderWrong)

/-- 'samaritanlaw03.HeapInsertionOrder': WHATEVER THE INPUT: true; the input reads as it did. -/
def heapInsertionOrderSpec : ChangeSpec := { name := "heapInsertionOrder", fn := fun _ => fun
  | [d1, d2] => { results := [.lit (.bool true)], args := [d1, d2] }
  | _ => none }
def heapInsertionOrderRow : OpenClaim := { program := "ytofigelofojjlaa", sum := "659fc1c2a83b8b224395412119eea977cfd0fa41b35d04fa5ce33574658f11ba", func := "samaritan/samaritanlaw03.HeapInsertionOrder", spec := "heapInsertionOrder", apart := false }
def HeapInsertionOrderSaid : Prop := heapInsertionOrderRow.holds Try.pinned (OpenSpec.ofChange heapInsertionOrderSpec)

/-- ITS FALSE NEIGHBOUR: 'it returns false'. Refute it at one input. -/
def heapInsertionOrderWrong : ChangeSpec := { name := "heapInsertionOrder", fn := fun _ => fun
  | [d1, d2] => { results := [.lit (.bool false)], args := [d1, d2] }
  | _ => none }
def HeapInsertionOrderWrongFalsely : Prop := heapInsertionOrderRow.holds Try.pinned (OpenSpec.ofChange heapInsertionOrderWrong)

/-- 'samaritanlaw03.HeapStringKeys': WHATEVER THE INPUT: true; the input reads as it did. -/
def heapStringKeysSpec : ChangeSpec := { name := "heapStringKeys", fn := fun _ => fun
  | [d] => { results := [.lit (.bool true)], args := [d] }
  | _ => none }
def heapStringKeysRow : OpenClaim := { program := "ytofigelofojjlaa", sum := "659fc1c2a83b8b224395412119eea977cfd0fa41b35d04fa5ce33574658f11ba", func := "samaritan/samaritanlaw03.HeapStringKeys", spec := "heapStringKeys", apart := false }
def HeapStringKeysSaid : Prop := heapStringKeysRow.holds Try.pinned (OpenSpec.ofChange heapStringKeysSpec)

/-- ITS FALSE NEIGHBOUR: 'it returns false'. Refute it at one input. -/
def heapStringKeysWrong : ChangeSpec := { name := "heapStringKeys", fn := fun _ => fun
  | [d] => { results := [.lit (.bool false)], args := [d] }
  | _ => none }
def HeapStringKeysWrongFalsely : Prop := heapStringKeysRow.holds Try.pinned (OpenSpec.ofChange heapStringKeysWrong)

/-- 'samaritanlaw03.HeapKeyLookup': WHATEVER THE INPUT: true; the input reads as it did. -/
def heapKeyLookupSpec : ChangeSpec := { name := "heapKeyLookup", fn := fun _ => fun
  | [d1, d2] => { results := [.lit (.bool true)], args := [d1, d2] }
  | _ => none }
def heapKeyLookupRow : OpenClaim := { program := "ytofigelofojjlaa", sum := "659fc1c2a83b8b224395412119eea977cfd0fa41b35d04fa5ce33574658f11ba", func := "samaritan/samaritanlaw03.HeapKeyLookup", spec := "heapKeyLookup", apart := false }
def HeapKeyLookupSaid : Prop := heapKeyLookupRow.holds Try.pinned (OpenSpec.ofChange heapKeyLookupSpec)

/-- ITS FALSE NEIGHBOUR: 'it returns false'. Refute it at one input. -/
def heapKeyLookupWrong : ChangeSpec := { name := "heapKeyLookup", fn := fun _ => fun
  | [d1, d2] => { results := [.lit (.bool false)], args := [d1, d2] }
  | _ => none }
def HeapKeyLookupWrongFalsely : Prop := heapKeyLookupRow.holds Try.pinned (OpenSpec.ofChange heapKeyLookupWrong)

/-- 'samaritanlaw03.HeapMatchesModel': WHATEVER THE INPUT: true; the input reads as it did. -/
def heapMatchesModelSpec : ChangeSpec := { name := "heapMatchesModel", fn := fun _ => fun
  | [d] => { results := [.lit (.bool true)], args := [d] }
  | _ => none }
def heapMatchesModelRow : OpenClaim := { program := "ytofigelofojjlaa", sum := "659fc1c2a83b8b224395412119eea977cfd0fa41b35d04fa5ce33574658f11ba", func := "samaritan/samaritanlaw03.HeapMatchesModel", spec := "heapMatchesModel", apart := false }
def HeapMatchesModelSaid : Prop := heapMatchesModelRow.holds Try.pinned (OpenSpec.ofChange heapMatchesModelSpec)

/-- ITS FALSE NEIGHBOUR: 'it returns false'. Refute it at one input. -/
def heapMatchesModelWrong : ChangeSpec := { name := "heapMatchesModel", fn := fun _ => fun
  | [d] => { results := [.lit (.bool false)], args := [d] }
  | _ => none }
def HeapMatchesModelWrongFalsely : Prop := heapMatchesModelRow.holds Try.pinned (OpenSpec.ofChange heapMatchesModelWrong)

/-- 'samaritanlaw03.HeapRemoval': WHATEVER THE INPUT: true; the input reads as it did. -/
def heapRemovalSpec : ChangeSpec := { name := "heapRemoval", fn := fun _ => fun
  | [d1, d2] => { results := [.lit (.bool true)], args := [d1, d2] }
  | _ => none }
def heapRemovalRow : OpenClaim := { program := "ytofigelofojjlaa", sum := "659fc1c2a83b8b224395412119eea977cfd0fa41b35d04fa5ce33574658f11ba", func := "samaritan/samaritanlaw03.HeapRemoval", spec := "heapRemoval", apart := false }
def HeapRemovalSaid : Prop := heapRemovalRow.holds Try.pinned (OpenSpec.ofChange heapRemovalSpec)

/-- ITS FALSE NEIGHBOUR: 'it returns false'. Refute it at one input. -/
def heapRemovalWrong : ChangeSpec := { name := "heapRemoval", fn := fun _ => fun
  | [d1, d2] => { results := [.lit (.bool false)], args := [d1, d2] }
  | _ => none }
def HeapRemovalWrongFalsely : Prop := heapRemovalRow.holds Try.pinned (OpenSpec.ofChange heapRemovalWrong)

/- THE SECOND FORM. 'bulk': how many values and letters a reading holds, each counted each time it is reached (what is shared counts as often as it is met; a slice's spare places count too). A statement '..UptoSaid' is the law's where the arguments, and the package variables that the reading takes, are together of bulk at most 1048576: NARROWER than '..Said'. Prove '..Said' where nothing that the law and all that it calls make is longer than what came in: it says more and counts as full. Else prove '..UptoSaid'. A law counts once. -/
mutual
def uptoBulk {H : Type} : DataW H → Nat
  | .lit (.string bytes) => bytes.length + 1
  | .lit _ => 1
  | .nil => 1
  | .ptr d => uptoBulk d + 1
  | .slice elems spare => uptoBulkAll elems + uptoBulkAll spare + 1
  | .agg parts => uptoBulkAll parts + 1
  | .iface _ d => uptoBulk d + 1
  | .map entries => uptoBulkEntries entries + 1
  | .held _ => 1
def uptoBulkAll {H : Type} : List (DataW H) → Nat
  | [] => 0
  | d :: r => uptoBulk d + uptoBulkAll r
def uptoBulkEntries {H : Type} : List (Lit × DataW H) → Nat
  | [] => 0
  | x :: r => uptoBulkEntry x + uptoBulkEntries r
def uptoBulkEntry {H : Type} : Lit × DataW H → Nat
  | (.string bytes, d) => bytes.length + uptoBulk d + 1
  | (_, d) => uptoBulk d + 1
 end
def uptoSmall : (H : Type) → List (DataW H) → Bool := fun _ ds => decide (uptoBulkAll ds ≤ 1048576)
def OpenSpec.upto (s : _root_.Go.ChangeSpec) : _root_.Go.OpenSpec := { _root_.Go.OpenSpec.ofChange s with cond := some uptoSmall }

/-- 'samaritanlaw03.HeapPopOrder', WHERE WHAT IT READS IS OF BULK AT MOST 1048576: true; the input reads as it did. -/
def heapPopOrderUptoRow : OpenClaim := { program := "ytofigelofojjlaa", sum := "659fc1c2a83b8b224395412119eea977cfd0fa41b35d04fa5ce33574658f11ba", func := "samaritan/samaritanlaw03.HeapPopOrder", spec := "heapPopOrder", apart := false, narrowed := true }
def HeapPopOrderUptoSaid : Prop := heapPopOrderUptoRow.holds Try.pinned (OpenSpec.upto heapPopOrderSpec)

/-- 'samaritanlaw03.HeapInsertionOrder', WHERE WHAT IT READS IS OF BULK AT MOST 1048576: true; the input reads as it did. -/
def heapInsertionOrderUptoRow : OpenClaim := { program := "ytofigelofojjlaa", sum := "659fc1c2a83b8b224395412119eea977cfd0fa41b35d04fa5ce33574658f11ba", func := "samaritan/samaritanlaw03.HeapInsertionOrder", spec := "heapInsertionOrder", apart := false, narrowed := true }
def HeapInsertionOrderUptoSaid : Prop := heapInsertionOrderUptoRow.holds Try.pinned (OpenSpec.upto heapInsertionOrderSpec)

/-- 'samaritanlaw03.HeapStringKeys', WHERE WHAT IT READS IS OF BULK AT MOST 1048576: true; the input reads as it did. -/
def heapStringKeysUptoRow : OpenClaim := { program := "ytofigelofojjlaa", sum := "659fc1c2a83b8b224395412119eea977cfd0fa41b35d04fa5ce33574658f11ba", func := "samaritan/samaritanlaw03.HeapStringKeys", spec := "heapStringKeys", apart := false, narrowed := true }
def HeapStringKeysUptoSaid : Prop := heapStringKeysUptoRow.holds Try.pinned (OpenSpec.upto heapStringKeysSpec)

/-- 'samaritanlaw03.HeapKeyLookup', WHERE WHAT IT READS IS OF BULK AT MOST 1048576: true; the input reads as it did. -/
def heapKeyLookupUptoRow : OpenClaim := { program := "ytofigelofojjlaa", sum := "659fc1c2a83b8b224395412119eea977cfd0fa41b35d04fa5ce33574658f11ba", func := "samaritan/samaritanlaw03.HeapKeyLookup", spec := "heapKeyLookup", apart := false, narrowed := true }
def HeapKeyLookupUptoSaid : Prop := heapKeyLookupUptoRow.holds Try.pinned (OpenSpec.upto heapKeyLookupSpec)

/-- 'samaritanlaw03.HeapMatchesModel', WHERE WHAT IT READS IS OF BULK AT MOST 1048576: true; the input reads as it did. -/
def heapMatchesModelUptoRow : OpenClaim := { program := "ytofigelofojjlaa", sum := "659fc1c2a83b8b224395412119eea977cfd0fa41b35d04fa5ce33574658f11ba", func := "samaritan/samaritanlaw03.HeapMatchesModel", spec := "heapMatchesModel", apart := false, narrowed := true }
def HeapMatchesModelUptoSaid : Prop := heapMatchesModelUptoRow.holds Try.pinned (OpenSpec.upto heapMatchesModelSpec)

/-- 'samaritanlaw03.HeapRemoval', WHERE WHAT IT READS IS OF BULK AT MOST 1048576: true; the input reads as it did. -/
def heapRemovalUptoRow : OpenClaim := { program := "ytofigelofojjlaa", sum := "659fc1c2a83b8b224395412119eea977cfd0fa41b35d04fa5ce33574658f11ba", func := "samaritan/samaritanlaw03.HeapRemoval", spec := "heapRemoval", apart := false, narrowed := true }
def HeapRemovalUptoSaid : Prop := heapRemovalUptoRow.holds Try.pinned (OpenSpec.upto heapRemovalSpec)

end Rows
end Go.Proofs.Ytofigelofojjlaa
