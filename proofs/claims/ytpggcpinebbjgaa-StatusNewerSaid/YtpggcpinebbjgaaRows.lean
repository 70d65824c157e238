/-
  No cell of these rows narrows 'for every input' (looked for: loops, veiled, ifaces, maps, wideKeys, modest, calm, conditions, laid).
  DERIVED. THE GIVEN ROWS OF THIS SEAT. 6 by the template 'for every input the law returns true; each argument reads behind the call as it read before'; 0 by the template 'total and deterministic' (their statements: YtpggcpinebbjgaaTotals.lean).
  GIVEN WITH THE SEED: the statements are not yours to turn. If you find one false, say at which input.
  Laid BY PROGRAM, IN A SANDBOX (cutbox-rows.mjs): the forced cells as the released guide's own fill.sh prints them over the translation 8cff6887dad61de6… (all of the seat's roots in one cut). By AI agents, Wed Nov 11 2026. No macro, syntax, notation, axiom, sorry.
-/
import Derived.Test.YtpggcpinebbjgaaChecked
import GoSem.Claim
import GoSem.ClaimJoined
import GoSem.ClaimMapViews
import Derived.JoinedTies
import Derived.KernelRfl
namespace Go.Proofs.Ytpggcpinebbjgaa
/- THE CELL 'sum', in the pinned program and in every row, IS THE sha256 OF THE DUMP (.gsa) THAT YtpggcpinebbjgaaProg.lean LOADS. Nothing in Lean hashes anything: it is a label: what it is worth is what the hold of that sum in a sandbox is worth. -/
noncomputable def Try.pinned : Pinned := { name := "ytpggcpinebbjgaa", sum := "8cff6887dad61de69f7cd34c68ad090ca3c144872a3520208cc44960cc5983ac", checked := Try.checked }
namespace Rows
def none {H : Type} : Left H := { results := [], args := [] }

/-- 'samaritanlaw30.StatusMatches': WHATEVER THE INPUT: true; the input reads as it did. -/
def statusMatchesSpec : ChangeSpec := { name := "statusMatches", fn := fun _ => fun
  | [d1, d2, d3] => { results := [.lit (.bool true)], args := [d1, d2, d3] }
  | _ => none }
def statusMatchesRow : OpenClaim := { program := "ytpggcpinebbjgaa", sum := "8cff6887dad61de69f7cd34c68ad090ca3c144872a3520208cc44960cc5983ac", func := "samaritan/samaritanlaw30.StatusMatches", spec := "statusMatches", apart := false }
def StatusMatchesSaid : Prop := statusMatchesRow.holds Try.pinned (OpenSpec.ofChange statusMatchesSpec)

/-- ITS FALSE NEIGHBOUR: 'it returns false'. Refute it at one input. -/
def statusMatchesWrong : ChangeSpec := { name := "statusMatches", fn := fun _ => fun
  | [d1, d2, d3] => { results := [.lit (.bool false)], args := [d1, d2, d3] }
  | _ => none }
def StatusMatchesWrongFalsely : Prop := statusMatchesRow.holds Try.pinned (OpenSpec.ofChange statusMatchesWrong)

/-- 'samaritanlaw30.StatusLast': WHATEVER THE INPUT: true; the input reads as it did. -/
def statusLastSpec : ChangeSpec := { name := "statusLast", fn := fun _ => fun
  | [d1, d2, d3] => { results := [.lit (.bool true)], args := [d1, d2, d3] }
  | _ => none }
def statusLastRow : OpenClaim := { program := "ytpggcpinebbjgaa", sum := "8cff6887dad61de69f7cd34c68ad090ca3c144872a3520208cc44960cc5983ac", func := "samaritan/samaritanlaw30.StatusLast", spec := "statusLast", apart := false }
def StatusLastSaid : Prop := statusLastRow.holds Try.pinned (OpenSpec.ofChange statusLastSpec)

/-- ITS FALSE NEIGHBOUR: 'it returns false'. Refute it at one input. -/
def statusLastWrong : ChangeSpec := { name := "statusLast", fn := fun _ => fun
  | [d1, d2, d3] => { results := [.lit (.bool false)], args := [d1, d2, d3] }
  | _ => none }
def StatusLastWrongFalsely : Prop := statusLastRow.holds Try.pinned (OpenSpec.ofChange statusLastWrong)

/-- 'samaritanlaw30.StatusOutOfOrder': WHATEVER THE INPUT: true; the input reads as it did. -/
def statusOutOfOrderSpec : ChangeSpec := { name := "statusOutOfOrder", fn := fun _ => fun
  | [d1, d2, d3] => { results := [.lit (.bool true)], args := [d1, d2, d3] }
  | _ => none }
def statusOutOfOrderRow : OpenClaim := { program := "ytpggcpinebbjgaa", sum := "8cff6887dad61de69f7cd34c68ad090ca3c144872a3520208cc44960cc5983ac", func := "samaritan/samaritanlaw30.StatusOutOfOrder", spec := "statusOutOfOrder", apart := false }
def StatusOutOfOrderSaid : Prop := statusOutOfOrderRow.holds Try.pinned (OpenSpec.ofChange statusOutOfOrderSpec)

/-- ITS FALSE NEIGHBOUR: 'it returns false'. Refute it at one input. -/
def statusOutOfOrderWrong : ChangeSpec := { name := "statusOutOfOrder", fn := fun _ => fun
  | [d1, d2, d3] => { results := [.lit (.bool false)], args := [d1, d2, d3] }
  | _ => none }
def StatusOutOfOrderWrongFalsely : Prop := statusOutOfOrderRow.holds Try.pinned (OpenSpec.ofChange statusOutOfOrderWrong)

/-- 'samaritanlaw30.StatusSilent': WHATEVER THE INPUT: true; the input reads as it did. -/
def statusSilentSpec : ChangeSpec := { name := "statusSilent", fn := fun _ => fun
  | [d1, d2, d3] => { results := [.lit (.bool true)], args := [d1, d2, d3] }
  | _ => none }
def statusSilentRow : OpenClaim := { program := "ytpggcpinebbjgaa", sum := "8cff6887dad61de69f7cd34c68ad090ca3c144872a3520208cc44960cc5983ac", func := "samaritan/samaritanlaw30.StatusSilent", spec := "statusSilent", apart := false }
def StatusSilentSaid : Prop := statusSilentRow.holds Try.pinned (OpenSpec.ofChange statusSilentSpec)

/-- ITS FALSE NEIGHBOUR: 'it returns false'. Refute it at one input. -/
def statusSilentWrong : ChangeSpec := { name := "statusSilent", fn := fun _ => fun
  | [d1, d2, d3] => { results := [.lit (.bool false)], args := [d1, d2, d3] }
  | _ => none }
def StatusSilentWrongFalsely : Prop := statusSilentRow.holds Try.pinned (OpenSpec.ofChange statusSilentWrong)

/-- 'samaritanlaw30.StatusNewer': WHATEVER THE INPUT: true; the input reads as it did. -/
def statusNewerSpec : ChangeSpec := { name := "statusNewer", fn := fun _ => fun
  | [d1, d2] => { results := [.lit (.bool true)], args := [d1, d2] }
  | _ => none }
def statusNewerRow : OpenClaim := { program := "ytpggcpinebbjgaa", sum := "8cff6887dad61de69f7cd34c68ad090ca3c144872a3520208cc44960cc5983ac", func := "samaritan/samaritanlaw30.StatusNewer", spec := "statusNewer", unfollowed := true, recurses := true, apart := false }
def StatusNewerSaid : Prop := statusNewerRow.holds Try.pinned (OpenSpec.ofChange statusNewerSpec)

/-- ITS FALSE NEIGHBOUR: 'it returns false'. Refute it at one input. -/
def statusNewerWrong : ChangeSpec := { name := "statusNewer", fn := fun _ => fun
  | [d1, d2] => { results := [.lit (.bool false)], args := [d1, d2] }
  | _ => none }
def StatusNewerWrongFalsely : Prop := statusNewerRow.holds Try.pinned (OpenSpec.ofChange statusNewerWrong)

/-- 'samaritanlaw30.StatusEmpty': WHATEVER THE INPUT: true; the input reads as it did. -/
def statusEmptySpec : ChangeSpec := { name := "statusEmpty", fn := fun _ => fun
  | [d1, d2, d3] => { results := [.lit (.bool true)], args := [d1, d2, d3] }
  | _ => none }
def statusEmptyRow : OpenClaim := { program := "ytpggcpinebbjgaa", sum := "8cff6887dad61de69f7cd34c68ad090ca3c144872a3520208cc44960cc5983ac", func := "samaritan/samaritanlaw30.StatusEmpty", spec := "statusEmpty", unfollowed := true, recurses := true, apart := false }
def StatusEmptySaid : Prop := statusEmptyRow.holds Try.pinned (OpenSpec.ofChange statusEmptySpec)

/-- ITS FALSE NEIGHBOUR: 'it returns false'. Refute it at one input. -/
def statusEmptyWrong : ChangeSpec := { name := "statusEmpty", fn := fun _ => fun
  | [d1, d2, d3] => { results := [.lit (.bool false)], args := [d1, d2, d3] }
  | _ => none }
def StatusEmptyWrongFalsely : Prop := statusEmptyRow.holds Try.pinned (OpenSpec.ofChange statusEmptyWrong)

/- THE SECOND FORM. 'bulk': how many values and letters a reading holds, each counted each time it is reached (what is shared counts as often as it is met; a slice's spare places count too). A statement '..UptoSaid' is the law's where the arguments, and the package variables that the reading takes, are together of bulk at most 1048576: NARROWER than '..Said'. Prove '..Said' where nothing that the law and all that it calls make is longer than what came in: it says more and counts as full. Else prove '..UptoSaid'. A law counts once. -/
mutual
def uptoBulk {H : Type} : DataW H → Nat
  | .lit (.string bytes) => bytes.length + 1
  | .lit _ => 1
  | .nil => 1
  | .ptr d => uptoBulk d + 1
  | .slice elems spare => uptoBulkAll elems + uptoBulkAll spare + 1
  | .agg parts => uptoBulkAll parts + 1
  | .iface _ d => uptoBulk d + 1
  | .map entries => uptoBulkEntries entries + 1
  | .held _ => 1
def uptoBulkAll {H : Type} : List (DataW H) → Nat
  | [] => 0
  | d :: r => uptoBulk d + uptoBulkAll r
def uptoBulkEntries {H : Type} : List (Lit × DataW H) → Nat
  | [] => 0
  | x :: r => uptoBulkEntry x + uptoBulkEntries r
def uptoBulkEntry {H : Type} : Lit × DataW H → Nat
  | (.string bytes, d) => bytes.length + uptoBulk d + 1
  | (_, d) => uptoBulk d + 1
 end
def uptoSmall : (H : Type) → List (DataW H) → Bool := fun _ ds => decide (uptoBulkAll ds ≤ 1048576)
def OpenSpec.upto (s : _root_.Go.ChangeSpec) : _root_.Go.OpenSpec := { _root_.Go.OpenSpec.ofChange s with cond := some uptoSmall }

/-- 'samaritanlaw30.StatusMatches', WHERE WHAT IT READS IS OF BULK AT MOST 1048576: true; the input reads as it did. -/
def statusMatchesUptoRow : OpenClaim := { program := "ytpggcpinebbjgaa", sum := "8cff6887dad61de69f7cd34c68ad090ca3c144872a3520208cc44960cc5983ac", func := "samaritan/samaritanlaw30.StatusMatches", spec := "statusMatches", apart := false, narrowed := true }
def StatusMatchesUptoSaid : Prop := statusMatchesUptoRow.holds Try.pinned (OpenSpec.upto statusMatchesSpec)

/-- 'samaritanlaw30.StatusLast', WHERE WHAT IT READS IS OF BULK AT MOST 1048576: true; the input reads as it did. -/
def statusLastUptoRow : OpenClaim := { program := "ytpggcpinebbjgaa", sum := "8cff6887dad61de69f7cd34c68ad090ca3c144872a3520208cc44960cc5983ac", func := "samaritan/samaritanlaw30.StatusLast", spec := "statusLast", apart := false, narrowed := true }
def StatusLastUptoSaid : Prop := statusLastUptoRow.holds Try.pinned (OpenSpec.upto statusLastSpec)

/-- 'samaritanlaw30.StatusOutOfOrder', WHERE WHAT IT READS IS OF BULK AT MOST 1048576: true; the input reads as it did. -/
def statusOutOfOrderUptoRow : OpenClaim := { program := "ytpggcpinebbjgaa", sum := "8cff6887dad61de69f7cd34c68ad090ca3c144872a3520208cc44960cc5983ac", func := "samaritan/samaritanlaw30.StatusOutOfOrder", spec := "statusOutOfOrder", apart := false, narrowed := true }
def StatusOutOfOrderUptoSaid : Prop := statusOutOfOrderUptoRow.holds Try.pinned (OpenSpec.upto statusOutOfOrderSpec)

/-- 'samaritanlaw30.StatusSilent', WHERE WHAT IT READS IS OF BULK AT MOST 1048576: true; the input reads as it did. -/
def statusSilentUptoRow : OpenClaim := { program := "ytpggcpinebbjgaa", sum := "8cff6887dad61de69f7cd34c68ad090ca3c144872a3520208cc44960cc5983ac", func := "samaritan/samaritanlaw30.StatusSilent", spec := "statusSilent", apart := false, narrowed := true }
def StatusSilentUptoSaid : Prop := statusSilentUptoRow.holds Try.pinned (OpenSpec.upto statusSilentSpec)

/-- 'samaritanlaw30.StatusNewer', WHERE WHAT IT READS IS OF BULK AT MOST 1048576: true; the input reads as it did. -/
def statusNewerUptoRow : OpenClaim := { program := "ytpggcpinebbjgaa", sum := "8cff6887dad61de69f7cd34c68ad090ca3c144872a3520208cc44960cc5983ac", func := "samaritan/samaritanlaw30.StatusNewer", spec := "statusNewer", unfollowed := true, recurses := true, apart := false, narrowed := true }
def StatusNewerUptoSaid : Prop := statusNewerUptoRow.holds Try.pinned (OpenSpec.upto statusNewerSpec)

/-- 'samaritanlaw30.StatusEmpty', WHERE WHAT IT READS IS OF BULK AT MOST 1048576: true; the input reads as it did. -/
def statusEmptyUptoRow : OpenClaim := { program := "ytpggcpinebbjgaa", sum := "8cff6887dad61de69f7cd34c68ad090ca3c144872a3520208cc44960cc5983ac", func := "samaritan/samaritanlaw30.StatusEmpty", spec := "statusEmpty", unfollowed := true, recurses := true, apart := false, narrowed := true }
def StatusEmptyUptoSaid : Prop := statusEmptyUptoRow.holds Try.pinned (OpenSpec.upto statusEmptySpec)

end Rows
end Go.Proofs.Ytpggcpinebbjgaa
