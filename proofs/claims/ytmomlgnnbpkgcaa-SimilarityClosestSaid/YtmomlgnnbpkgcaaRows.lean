/-
  No cell of these rows narrows 'for every input' (looked for: loops, veiled, ifaces, maps, wideKeys, modest, calm, conditions, laid).
  DERIVED. THE GIVEN ROWS OF THIS SEAT. 6 by the template 'for every input the law returns true; each argument reads behind the call as it read before'; 0 by the template 'total and deterministic' (their statements: YtmomlgnnbpkgcaaTotals.lean).
  GIVEN WITH THE SEED: the statements are not yours to turn. If you find one false, say at which input.
  Laid BY PROGRAM, IN A SANDBOX (cutbox-rows.mjs): the forced cells as the released guide's own fill.sh prints them over the translation f0c40fa86b454df4… (all of the seat's roots in one cut). By AI agents, Wed Nov 11 2026. No macro, syntax, notation, axiom, sorry.
-/
import Derived.Test.YtmomlgnnbpkgcaaChecked
import GoSem.Claim
import GoSem.ClaimJoined
import GoSem.ClaimMapViews
import Derived.JoinedTies
import Derived.KernelRfl
namespace Go.Proofs.Ytmomlgnnbpkgcaa
/- THE CELL 'sum', in the pinned program and in every row, IS THE sha256 OF THE DUMP (.gsa) THAT YtmomlgnnbpkgcaaProg.lean LOADS. Nothing in Lean hashes anything: it is a label: what it is worth is what the hold of that sum in a sandbox is worth. -/
noncomputable def Try.pinned : Pinned := { name := "ytmomlgnnbpkgcaa", sum := "f0c40fa86b454df46cf3d369d0f97b96a42499095ddfee3c5b2ede1e563dbe8f", checked := Try.checked }
namespace Rows
def none {H : Type} : Left H := { results := [], args := [] }

/-- 'samaritanlaw33.SimilarityDistance': WHATEVER THE INPUT: true; the input reads as it did. -/
def similarityDistanceSpec : ChangeSpec := { name := "similarityDistance", fn := fun _ => fun
  | [d1, d2, d3] => { results := [.lit (.bool true)], args := [d1, d2, d3] }
  | _ => none }
def similarityDistanceRow : OpenClaim := { program := "ytmomlgnnbpkgcaa", sum := "f0c40fa86b454df46cf3d369d0f97b96a42499095ddfee3c5b2ede1e563dbe8f", func := "samaritan/samaritanlaw33.SimilarityDistance", spec := "similarityDistance", inPlace := ["internal/bytealg.IndexByteString", "internal/bytealg.IndexString"], unfollowed := true, recurses := true, named := ["internal/bytealg.MaxLen"], apart := false }
def SimilarityDistanceSaid : Prop := similarityDistanceRow.holds Try.pinned (OpenSpec.ofChange similarityDistanceSpec)

/-- ITS FALSE NEIGHBOUR: 'it returns false'. Refute it at one input. -/
def similarityDistanceWrong : ChangeSpec := { name := "similarityDistance", fn := fun _ => fun
  | [d1, d2, d3] => { results := [.lit (.bool false)], args := [d1, d2, d3] }
  | _ => none }
def SimilarityDistanceWrongFalsely : Prop := similarityDistanceRow.holds Try.pinned (OpenSpec.ofChange similarityDistanceWrong)

/-- 'samaritanlaw33.SimilaritySimilar': WHATEVER THE INPUT: true; the input reads as it did. -/
def similaritySimilarSpec : ChangeSpec := { name := "similaritySimilar", fn := fun _ => fun
  | [d1, d2, d3] => { results := [.lit (.bool true)], args := [d1, d2, d3] }
  | _ => none }
def similaritySimilarRow : OpenClaim := { program := "ytmomlgnnbpkgcaa", sum := "f0c40fa86b454df46cf3d369d0f97b96a42499095ddfee3c5b2ede1e563dbe8f", func := "samaritan/samaritanlaw33.SimilaritySimilar", spec := "similaritySimilar", inPlace := ["internal/bytealg.IndexByteString", "internal/bytealg.IndexString"], unfollowed := true, recurses := true, named := ["internal/bytealg.MaxLen"], apart := false }
def SimilaritySimilarSaid : Prop := similaritySimilarRow.holds Try.pinned (OpenSpec.ofChange similaritySimilarSpec)

/-- ITS FALSE NEIGHBOUR: 'it returns false'. Refute it at one input. -/
def similaritySimilarWrong : ChangeSpec := { name := "similaritySimilar", fn := fun _ => fun
  | [d1, d2, d3] => { results := [.lit (.bool false)], args := [d1, d2, d3] }
  | _ => none }
def SimilaritySimilarWrongFalsely : Prop := similaritySimilarRow.holds Try.pinned (OpenSpec.ofChange similaritySimilarWrong)

/-- 'samaritanlaw33.SimilarityClosest': WHATEVER THE INPUT: true; the input reads as it did. -/
def similarityClosestSpec : ChangeSpec := { name := "similarityClosest", fn := fun _ => fun
  | [d1, d2, d3] => { results := [.lit (.bool true)], args := [d1, d2, d3] }
  | _ => none }
def similarityClosestRow : OpenClaim := { program := "ytmomlgnnbpkgcaa", sum := "f0c40fa86b454df46cf3d369d0f97b96a42499095ddfee3c5b2ede1e563dbe8f", func := "samaritan/samaritanlaw33.SimilarityClosest", spec := "similarityClosest", inPlace := ["internal/bytealg.IndexByteString", "internal/bytealg.IndexString"], unfollowed := true, recurses := true, named := ["internal/bytealg.MaxLen"], apart := false }
def SimilarityClosestSaid : Prop := similarityClosestRow.holds Try.pinned (OpenSpec.ofChange similarityClosestSpec)

/-- ITS FALSE NEIGHBOUR: 'it returns false'. Refute it at one input. -/
def similarityClosestWrong : ChangeSpec := { name := "similarityClosest", fn := fun _ => fun
  | [d1, d2, d3] => { results := [.lit (.bool false)], args := [d1, d2, d3] }
  | _ => none }
def SimilarityClosestWrongFalsely : Prop := similarityClosestRow.holds Try.pinned (OpenSpec.ofChange similarityClosestWrong)

/-- 'samaritanlaw33.SimilarityPairs': WHATEVER THE INPUT: true; the input reads as it did. -/
def similarityPairsSpec : ChangeSpec := { name := "similarityPairs", fn := fun _ => fun
  | [d1, d2, d3] => { results := [.lit (.bool true)], args := [d1, d2, d3] }
  | _ => none }
def similarityPairsRow : OpenClaim := { program := "ytmomlgnnbpkgcaa", sum := "f0c40fa86b454df46cf3d369d0f97b96a42499095ddfee3c5b2ede1e563dbe8f", func := "samaritan/samaritanlaw33.SimilarityPairs", spec := "similarityPairs", inPlace := ["internal/bytealg.IndexByteString", "internal/bytealg.IndexString"], unfollowed := true, recurses := true, named := ["internal/bytealg.MaxLen"], apart := false }
def SimilarityPairsSaid : Prop := similarityPairsRow.holds Try.pinned (OpenSpec.ofChange similarityPairsSpec)

/-- ITS FALSE NEIGHBOUR: 'it returns false'. Refute it at one input. -/
def similarityPairsWrong : ChangeSpec := { name := "similarityPairs", fn := fun _ => fun
  | [d1, d2, d3] => { results := [.lit (.bool false)], args := [d1, d2, d3] }
  | _ => none }
def SimilarityPairsWrongFalsely : Prop := similarityPairsRow.holds Try.pinned (OpenSpec.ofChange similarityPairsWrong)

/-- 'samaritanlaw33.SimilaritySymmetric': WHATEVER THE INPUT: true; the input reads as it did. -/
def similaritySymmetricSpec : ChangeSpec := { name := "similaritySymmetric", fn := fun _ => fun
  | [d1, d2, d3] => { results := [.lit (.bool true)], args := [d1, d2, d3] }
  | _ => none }
def similaritySymmetricRow : OpenClaim := { program := "ytmomlgnnbpkgcaa", sum := "f0c40fa86b454df46cf3d369d0f97b96a42499095ddfee3c5b2ede1e563dbe8f", func := "samaritan/samaritanlaw33.SimilaritySymmetric", spec := "similaritySymmetric", inPlace := ["internal/bytealg.IndexByteString", "internal/bytealg.IndexString"], unfollowed := true, recurses := true, named := ["internal/bytealg.MaxLen"], apart := false }
def SimilaritySymmetricSaid : Prop := similaritySymmetricRow.holds Try.pinned (OpenSpec.ofChange similaritySymmetricSpec)

/-- ITS FALSE NEIGHBOUR: 'it returns false'. Refute it at one input. -/
def similaritySymmetricWrong : ChangeSpec := { name := "similaritySymmetric", fn := fun _ => fun
  | [d1, d2, d3] => { results := [.lit (.bool false)], args := [d1, d2, d3] }
  | _ => none }
def SimilaritySymmetricWrongFalsely : Prop := similaritySymmetricRow.holds Try.pinned (OpenSpec.ofChange similaritySymmetricWrong)

/-- 'samaritanlaw33.SimilarityMonotonic': WHATEVER THE INPUT: true; the input reads as it did. -/
def similarityMonotonicSpec : ChangeSpec := { name := "similarityMonotonic", fn := fun _ => fun
  | [d1, d2, d3] => { results := [.lit (.bool true)], args := [d1, d2, d3] }
  | _ => none }
def similarityMonotonicRow : OpenClaim := { program := "ytmomlgnnbpkgcaa", sum := "f0c40fa86b454df46cf3d369d0f97b96a42499095ddfee3c5b2ede1e563dbe8f", func := "samaritan/samaritanlaw33.SimilarityMonotonic", spec := "similarityMonotonic", inPlace := ["internal/bytealg.IndexByteString", "internal/bytealg.IndexString"], unfollowed := true, recurses := true, named := ["internal/bytealg.MaxLen"], apart := false }
def SimilarityMonotonicSaid : Prop := similarityMonotonicRow.holds Try.pinned (OpenSpec.ofChange similarityMonotonicSpec)

/-- ITS FALSE NEIGHBOUR: 'it returns false'. Refute it at one input. -/
def similarityMonotonicWrong : ChangeSpec := { name := "similarityMonotonic", fn := fun _ => fun
  | [d1, d2, d3] => { results := [.lit (.bool false)], args := [d1, d2, d3] }
  | _ => none }
def SimilarityMonotonicWrongFalsely : Prop := similarityMonotonicRow.holds Try.pinned (OpenSpec.ofChange similarityMonotonicWrong)

/- THE SECOND FORM. 'bulk': how many values and letters a reading holds, each counted each time it is reached (what is shared counts as often as it is met; a slice's spare places count too). A statement '..UptoSaid' is the law's where the arguments, and the package variables that the reading takes, are together of bulk at most 1048576: NARROWER than '..Said'. Prove '..Said' where nothing that the law and all that it calls make is longer than what came in: it says more and counts as full. Else prove '..UptoSaid'. A law counts once. -/
mutual
def uptoBulk {H : Type} : DataW H → Nat
  | .lit (.string bytes) => bytes.length + 1
  | .lit _ => 1
  | .nil => 1
  | .ptr d => uptoBulk d + 1
  | .slice elems spare => uptoBulkAll elems + uptoBulkAll spare + 1
  | .agg parts => uptoBulkAll parts + 1
  | .iface _ d => uptoBulk d + 1
  | .map entries => uptoBulkEntries entries + 1
  | .held _ => 1
def uptoBulkAll {H : Type} : List (DataW H) → Nat
  | [] => 0
  | d :: r => uptoBulk d + uptoBulkAll r
def uptoBulkEntries {H : Type} : List (Lit × DataW H) → Nat
  | [] => 0
  | x :: r => uptoBulkEntry x + uptoBulkEntries r
def uptoBulkEntry {H : Type} : Lit × DataW H → Nat
  | (.string bytes, d) => bytes.length + uptoBulk d + 1
  | (_, d) => uptoBulk d + 1
 end
def uptoSmall : (H : Type) → List (DataW H) → Bool := fun _ ds => decide (uptoBulkAll ds ≤ 1048576)
def OpenSpec.upto (s : _root_.Go.ChangeSpec) : _root_.Go.OpenSpec := { _root_.Go.OpenSpec.ofChange s with cond := some uptoSmall }

/-- 'samaritanlaw33.SimilarityDistance', WHERE WHAT IT READS IS OF BULK AT MOST 1048576: true; the input reads as it did. -/
def similarityDistanceUptoRow : OpenClaim := { program := "ytmomlgnnbpkgcaa", sum := "f0c40fa86b454df46cf3d369d0f97b96a42499095ddfee3c5b2ede1e563dbe8f", func := "samaritan/samaritanlaw33.SimilarityDistance", spec := "similarityDistance", inPlace := ["internal/bytealg.IndexByteString", "internal/bytealg.IndexString"], unfollowed := true, recurses := true, named := ["internal/bytealg.MaxLen"], apart := false, narrowed := true }
def SimilarityDistanceUptoSaid : Prop := similarityDistanceUptoRow.holds Try.pinned (OpenSpec.upto similarityDistanceSpec)

/-- 'samaritanlaw33.SimilaritySimilar', WHERE WHAT IT READS IS OF BULK AT MOST 1048576: true; the input reads as it did. -/
def similaritySimilarUptoRow : OpenClaim := { program := "ytmomlgnnbpkgcaa", sum := "f0c40fa86b454df46cf3d369d0f97b96a42499095ddfee3c5b2ede1e563dbe8f", func := "samaritan/samaritanlaw33.SimilaritySimilar", spec := "similaritySimilar", inPlace := ["internal/bytealg.IndexByteString", "internal/bytealg.IndexString"], unfollowed := true, recurses := true, named := ["internal/bytealg.MaxLen"], apart := false, narrowed := true }
def SimilaritySimilarUptoSaid : Prop := similaritySimilarUptoRow.holds Try.pinned (OpenSpec.upto similaritySimilarSpec)

/-- 'samaritanlaw33.SimilarityClosest', WHERE WHAT IT READS IS OF BULK AT MOST 1048576: true; the input reads as it did. -/
def similarityClosestUptoRow : OpenClaim := { program := "ytmomlgnnbpkgcaa", sum := "f0c40fa86b454df46cf3d369d0f97b96a42499095ddfee3c5b2ede1e563dbe8f", func := "samaritan/samaritanlaw33.SimilarityClosest", spec := "similarityClosest", inPlace := ["internal/bytealg.IndexByteString", "internal/bytealg.IndexString"], unfollowed := true, recurses := true, named := ["internal/bytealg.MaxLen"], apart := false, narrowed := true }
def SimilarityClosestUptoSaid : Prop := similarityClosestUptoRow.holds Try.pinned (OpenSpec.upto similarityClosestSpec)

/-- 'samaritanlaw33.SimilarityPairs', WHERE WHAT IT READS IS OF BULK AT MOST 1048576: true; the input reads as it did. -/
def similarityPairsUptoRow : OpenClaim := { program := "ytmomlgnnbpkgcaa", sum := "f0c40fa86b454df46cf3d369d0f97b96a42499095ddfee3c5b2ede1e563dbe8f", func := "samaritan/samaritanlaw33.SimilarityPairs", spec := "similarityPairs", inPlace := ["internal/bytealg.IndexByteString", "internal/bytealg.IndexString"], unfollowed := true, recurses := true, named := ["internal/bytealg.MaxLen"], apart := false, narrowed := true }
def SimilarityPairsUptoSaid : Prop := similarityPairsUptoRow.holds Try.pinned (OpenSpec.upto similarityPairsSpec)

/-- 'samaritanlaw33.SimilaritySymmetric', WHERE WHAT IT READS IS OF BULK AT MOST 1048576: true; the input reads as it did. -/
def similaritySymmetricUptoRow : OpenClaim := { program := "ytmomlgnnbpkgcaa", sum := "f0c40fa86b454df46cf3d369d0f97b96a42499095ddfee3c5b2ede1e563dbe8f", func := "samaritan/samaritanlaw33.SimilaritySymmetric", spec := "similaritySymmetric", inPlace := ["internal/bytealg.IndexByteString", "internal/bytealg.IndexString"], unfollowed := true, recurses := true, named := ["internal/bytealg.MaxLen"], apart := false, narrowed := true }
def SimilaritySymmetricUptoSaid : Prop := similaritySymmetricUptoRow.holds Try.pinned (OpenSpec.upto similaritySymmetricSpec)

/-- 'samaritanlaw33.SimilarityMonotonic', WHERE WHAT IT READS IS OF BULK AT MOST 1048576: true; the input reads as it did. -/
def similarityMonotonicUptoRow : OpenClaim := { program := "ytmomlgnnbpkgcaa", sum := "f0c40fa86b454df46cf3d369d0f97b96a42499095ddfee3c5b2ede1e563dbe8f", func := "samaritan/samaritanlaw33.SimilarityMonotonic", spec := "similarityMonotonic", inPlace := ["internal/bytealg.IndexByteString", "internal/bytealg.IndexString"], unfollowed := true, recurses := true, named := ["internal/bytealg.MaxLen"], apart := false, narrowed := true }
def SimilarityMonotonicUptoSaid : Prop := similarityMonotonicUptoRow.holds Try.pinned (OpenSpec.upto similarityMonotonicSpec)

end Rows
end Go.Proofs.Ytmomlgnnbpkgcaa
