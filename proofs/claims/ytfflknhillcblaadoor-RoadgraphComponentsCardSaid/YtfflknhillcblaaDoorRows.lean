/-
  NARROWER THAN 'FOR EVERY INPUT', by the rows' own cells (each row's printed sentence says how): RoadgraphAdjacency: laid · RoadgraphReachability: laid · RoadgraphComponents: laid · RoadgraphNoAliasing: laid · RoadgraphMonotonic: laid · RoadgraphReverse: laid · RoadgraphNew: laid.
  DERIVED. THE GIVEN ROWS OF THIS SEAT. 7 by the template 'for every input the law returns true; each argument reads behind the call as it read before'; 0 by the template 'total and deterministic' (their statements: YtfflknhillcblaaDoorTotals.lean).
  GIVEN WITH THE SEED: the statements are not yours to turn. If you find one false, say at which input.
  Laid BY PROGRAM, IN A SANDBOX (cutbox-rows.mjs): the forced cells as the released guide's own fill.sh prints them over the translation d803fa48259a040e… (all of the seat's roots in one cut). By AI agents, Wed Nov 11 2026. No macro, syntax, notation, axiom, sorry.
-/
import Derived.Test.YtfflknhillcblaaDoorChecked
import GoSem.Claim
import GoSem.ClaimJoined
import GoSem.ClaimMapViews
import Derived.JoinedTies
import Derived.KernelRfl
namespace Go.Proofs.YtfflknhillcblaaDoor
/- THE CELL 'sum', in the pinned program and in every row, IS THE sha256 OF THE DUMP (.gsa) THAT YtfflknhillcblaaDoorProg.lean LOADS. Nothing in Lean hashes anything: it is a label: what it is worth is what the hold of that sum in a sandbox is worth. -/
noncomputable def Tryd.pinned : Pinned := { name := "ytfflknhillcblaadoor", sum := "d803fa48259a040e19cd5e6b087903a0ee34739aa838d4ac8c8facd4dd7e92f8", checked := Tryd.checked }
namespace Rows
def none {H : Type} : Left H := { results := [], args := [] }

/- WHAT THE LISTED PACKAGE-LEVEL VARIABLES READ AS WHEN THE CALL BEGINS. Each datum BY PROGRAM (the guide's laid-datum.mjs) off the statement by which the dump's own 'gosem.cut.vars' lays the variable. In a bare row this is a premise. The card (YtfflknhillcblaaDoorCards.lean) ties it to the program's text. -/
def laid_math_bits_deBruijn64tab {H : Type} : DataW H := .agg [.lit (.int .u8 0), .lit (.int .u8 1), .lit (.int .u8 56), .lit (.int .u8 2), .lit (.int .u8 57), .lit (.int .u8 49), .lit (.int .u8 28), .lit (.int .u8 3), .lit (.int .u8 61), .lit (.int .u8 58), .lit (.int .u8 42), .lit (.int .u8 50), .lit (.int .u8 38), .lit (.int .u8 29), .lit (.int .u8 17), .lit (.int .u8 4), .lit (.int .u8 62), .lit (.int .u8 47), .lit (.int .u8 59), .lit (.int .u8 36), .lit (.int .u8 45), .lit (.int .u8 43), .lit (.int .u8 51), .lit (.int .u8 22), .lit (.int .u8 53), .lit (.int .u8 39), .lit (.int .u8 33), .lit (.int .u8 30), .lit (.int .u8 24), .lit (.int .u8 18), .lit (.int .u8 12), .lit (.int .u8 5), .lit (.int .u8 63), .lit (.int .u8 55), .lit (.int .u8 48), .lit (.int .u8 27), .lit (.int .u8 60), .lit (.int .u8 41), .lit (.int .u8 37), .lit (.int .u8 16), .lit (.int .u8 46), .lit (.int .u8 35), .lit (.int .u8 44), .lit (.int .u8 21), .lit (.int .u8 52), .lit (.int .u8 32), .lit (.int .u8 23), .lit (.int .u8 11), .lit (.int .u8 54), .lit (.int .u8 26), .lit (.int .u8 40), .lit (.int .u8 15), .lit (.int .u8 34), .lit (.int .u8 20), .lit (.int .u8 31), .lit (.int .u8 10), .lit (.int .u8 25), .lit (.int .u8 14), .lit (.int .u8 19), .lit (.int .u8 9), .lit (.int .u8 13), .lit (.int .u8 8), .lit (.int .u8 7), .lit (.int .u8 6)]

/-- 'samaritanlaw07.RoadgraphAdjacency': WHATEVER THE INPUT: true; the input reads as it did. -/
def roadgraphAdjacencySpec : ChangeSpec := { name := "roadgraphAdjacency", fn := fun _ => fun
  | [d1, d2, d3] => { results := [.lit (.bool true)], args := [d1, d2, d3] }
  | _ => none }
def roadgraphAdjacencyRow : OpenClaim := { program := "ytfflknhillcblaadoor", sum := "d803fa48259a040e19cd5e6b087903a0ee34739aa838d4ac8c8facd4dd7e92f8", func := "samaritan/samaritanlaw07.RoadgraphAdjacency", spec := "roadgraphAdjacency", unfollowed := true, recurses := true, named := ["math/bits.deBruijn64tab"], apart := false, laid := [("math/bits.deBruijn64tab", laid_math_bits_deBruijn64tab)] }
def RoadgraphAdjacencySaid : Prop := roadgraphAdjacencyRow.holds Tryd.pinned (OpenSpec.ofChange roadgraphAdjacencySpec)

/-- ITS FALSE NEIGHBOUR: 'it returns false'. Refute it at one input. -/
def roadgraphAdjacencyWrong : ChangeSpec := { name := "roadgraphAdjacency", fn := fun _ => fun
  | [d1, d2, d3] => { results := [.lit (.bool false)], args := [d1, d2, d3] }
  | _ => none }
def RoadgraphAdjacencyWrongFalsely : Prop := roadgraphAdjacencyRow.holds Tryd.pinned (OpenSpec.ofChange roadgraphAdjacencyWrong)

/-- 'samaritanlaw07.RoadgraphReachability': WHATEVER THE INPUT: true; the input reads as it did. -/
def roadgraphReachabilitySpec : ChangeSpec := { name := "roadgraphReachability", fn := fun _ => fun
  | [d1, d2] => { results := [.lit (.bool true)], args := [d1, d2] }
  | _ => none }
def roadgraphReachabilityRow : OpenClaim := { program := "ytfflknhillcblaadoor", sum := "d803fa48259a040e19cd5e6b087903a0ee34739aa838d4ac8c8facd4dd7e92f8", func := "samaritan/samaritanlaw07.RoadgraphReachability", spec := "roadgraphReachability", unfollowed := true, recurses := true, named := ["math/bits.deBruijn64tab"], apart := false, laid := [("math/bits.deBruijn64tab", laid_math_bits_deBruijn64tab)] }
def RoadgraphReachabilitySaid : Prop := roadgraphReachabilityRow.holds Tryd.pinned (OpenSpec.ofChange roadgraphReachabilitySpec)

/-- ITS FALSE NEIGHBOUR: 'it returns false'. Refute it at one input. -/
def roadgraphReachabilityWrong : ChangeSpec := { name := "roadgraphReachability", fn := fun _ => fun
  | [d1, d2] => { results := [.lit (.bool false)], args := [d1, d2] }
  | _ => none }
def RoadgraphReachabilityWrongFalsely : Prop := roadgraphReachabilityRow.holds Tryd.pinned (OpenSpec.ofChange roadgraphReachabilityWrong)

/-- 'samaritanlaw07.RoadgraphComponents': WHATEVER THE INPUT: true; the input reads as it did. -/
def roadgraphComponentsSpec : ChangeSpec := { name := "roadgraphComponents", fn := fun _ => fun
  | [d] => { results := [.lit (.bool true)], args := [d] }
  | _ => none }
def roadgraphComponentsRow : OpenClaim := { program := "ytfflknhillcblaadoor", sum := "d803fa48259a040e19cd5e6b087903a0ee34739aa838d4ac8c8facd4dd7e92f8", func := "samaritan/samaritanlaw07.RoadgraphComponents", spec := "roadgraphComponents", unfollowed := true, recurses := true, named := ["math/bits.deBruijn64tab"], apart := false, laid := [("math/bits.deBruijn64tab", laid_math_bits_deBruijn64tab)] }
def RoadgraphComponentsSaid : Prop := roadgraphComponentsRow.holds Tryd.pinned (OpenSpec.ofChange roadgraphComponentsSpec)

/-- ITS FALSE NEIGHBOUR: 'it returns false'. Refute it at one input. -/
def roadgraphComponentsWrong : ChangeSpec := { name := "roadgraphComponents", fn := fun _ => fun
  | [d] => { results := [.lit (.bool false)], args := [d] }
  | _ => none }
def RoadgraphComponentsWrongFalsely : Prop := roadgraphComponentsRow.holds Tryd.pinned (OpenSpec.ofChange roadgraphComponentsWrong)

/-- 'samaritanlaw07.RoadgraphNoAliasing': WHATEVER THE INPUT: true; the input reads as it did. -/
def roadgraphNoAliasingSpec : ChangeSpec := { name := "roadgraphNoAliasing", fn := fun _ => fun
  | [d1, d2] => { results := [.lit (.bool true)], args := [d1, d2] }
  | _ => none }
def roadgraphNoAliasingRow : OpenClaim := { program := "ytfflknhillcblaadoor", sum := "d803fa48259a040e19cd5e6b087903a0ee34739aa838d4ac8c8facd4dd7e92f8", func := "samaritan/samaritanlaw07.RoadgraphNoAliasing", spec := "roadgraphNoAliasing", unfollowed := true, recurses := true, named := ["math/bits.deBruijn64tab"], apart := false, laid := [("math/bits.deBruijn64tab", laid_math_bits_deBruijn64tab)] }
def RoadgraphNoAliasingSaid : Prop := roadgraphNoAliasingRow.holds Tryd.pinned (OpenSpec.ofChange roadgraphNoAliasingSpec)

/-- ITS FALSE NEIGHBOUR: 'it returns false'. Refute it at one input. -/
def roadgraphNoAliasingWrong : ChangeSpec := { name := "roadgraphNoAliasing", fn := fun _ => fun
  | [d1, d2] => { results := [.lit (.bool false)], args := [d1, d2] }
  | _ => none }
def RoadgraphNoAliasingWrongFalsely : Prop := roadgraphNoAliasingRow.holds Tryd.pinned (OpenSpec.ofChange roadgraphNoAliasingWrong)

/-- 'samaritanlaw07.RoadgraphMonotonic': WHATEVER THE INPUT: true; the input reads as it did. -/
def roadgraphMonotonicSpec : ChangeSpec := { name := "roadgraphMonotonic", fn := fun _ => fun
  | [d1, d2, d3] => { results := [.lit (.bool true)], args := [d1, d2, d3] }
  | _ => none }
def roadgraphMonotonicRow : OpenClaim := { program := "ytfflknhillcblaadoor", sum := "d803fa48259a040e19cd5e6b087903a0ee34739aa838d4ac8c8facd4dd7e92f8", func := "samaritan/samaritanlaw07.RoadgraphMonotonic", spec := "roadgraphMonotonic", unfollowed := true, recurses := true, named := ["math/bits.deBruijn64tab"], apart := false, laid := [("math/bits.deBruijn64tab", laid_math_bits_deBruijn64tab)] }
def RoadgraphMonotonicSaid : Prop := roadgraphMonotonicRow.holds Tryd.pinned (OpenSpec.ofChange roadgraphMonotonicSpec)

/-- ITS FALSE NEIGHBOUR: 'it returns false'. Refute it at one input. -/
def roadgraphMonotonicWrong : ChangeSpec := { name := "roadgraphMonotonic", fn := fun _ => fun
  | [d1, d2, d3] => { results := [.lit (.bool false)], args := [d1, d2, d3] }
  | _ => none }
def RoadgraphMonotonicWrongFalsely : Prop := roadgraphMonotonicRow.holds Tryd.pinned (OpenSpec.ofChange roadgraphMonotonicWrong)

/-- 'samaritanlaw07.RoadgraphReverse': WHATEVER THE INPUT: true; the input reads as it did. -/
def roadgraphReverseSpec : ChangeSpec := { name := "roadgraphReverse", fn := fun _ => fun
  | [d1, d2, d3] => { results := [.lit (.bool true)], args := [d1, d2, d3] }
  | _ => none }
def roadgraphReverseRow : OpenClaim := { program := "ytfflknhillcblaadoor", sum := "d803fa48259a040e19cd5e6b087903a0ee34739aa838d4ac8c8facd4dd7e92f8", func := "samaritan/samaritanlaw07.RoadgraphReverse", spec := "roadgraphReverse", unfollowed := true, recurses := true, named := ["math/bits.deBruijn64tab"], apart := false, laid := [("math/bits.deBruijn64tab", laid_math_bits_deBruijn64tab)] }
def RoadgraphReverseSaid : Prop := roadgraphReverseRow.holds Tryd.pinned (OpenSpec.ofChange roadgraphReverseSpec)

/-- ITS FALSE NEIGHBOUR: 'it returns false'. Refute it at one input. -/
def roadgraphReverseWrong : ChangeSpec := { name := "roadgraphReverse", fn := fun _ => fun
  | [d1, d2, d3] => { results := [.lit (.bool false)], args := [d1, d2, d3] }
  | _ => none }
def RoadgraphReverseWrongFalsely : Prop := roadgraphReverseRow.holds Tryd.pinned (OpenSpec.ofChange roadgraphReverseWrong)

/-- 'samaritanlaw07.RoadgraphNew': WHATEVER THE INPUT: true; the input reads as it did. -/
def roadgraphNewSpec : ChangeSpec := { name := "roadgraphNew", fn := fun _ => fun
  | [d1, d2] => { results := [.lit (.bool true)], args := [d1, d2] }
  | _ => none }
def roadgraphNewRow : OpenClaim := { program := "ytfflknhillcblaadoor", sum := "d803fa48259a040e19cd5e6b087903a0ee34739aa838d4ac8c8facd4dd7e92f8", func := "samaritan/samaritanlaw07.RoadgraphNew", spec := "roadgraphNew", unfollowed := true, recurses := true, named := ["math/bits.deBruijn64tab"], apart := false, laid := [("math/bits.deBruijn64tab", laid_math_bits_deBruijn64tab)] }
def RoadgraphNewSaid : Prop := roadgraphNewRow.holds Tryd.pinned (OpenSpec.ofChange roadgraphNewSpec)

/-- ITS FALSE NEIGHBOUR: 'it returns false'. Refute it at one input. -/
def roadgraphNewWrong : ChangeSpec := { name := "roadgraphNew", fn := fun _ => fun
  | [d1, d2] => { results := [.lit (.bool false)], args := [d1, d2] }
  | _ => none }
def RoadgraphNewWrongFalsely : Prop := roadgraphNewRow.holds Tryd.pinned (OpenSpec.ofChange roadgraphNewWrong)

/- THE SECOND FORM. 'bulk': how many values and letters a reading holds, each counted each time it is reached (what is shared counts as often as it is met; a slice's spare places count too). A statement '..UptoSaid' is the law's where the arguments, and the package variables that the reading takes, are together of bulk at most 1048576: NARROWER than '..Said'. Prove '..Said' where nothing that the law and all that it calls make is longer than what came in: it says more and counts as full. Else prove '..UptoSaid'. A law counts once. -/
mutual
def uptoBulk {H : Type} : DataW H → Nat
  | .lit (.string bytes) => bytes.length + 1
  | .lit _ => 1
  | .nil => 1
  | .ptr d => uptoBulk d + 1
  | .slice elems spare => uptoBulkAll elems + uptoBulkAll spare + 1
  | .agg parts => uptoBulkAll parts + 1
  | .iface _ d => uptoBulk d + 1
  | .map entries => uptoBulkEntries entries + 1
  | .held _ => 1
def uptoBulkAll {H : Type} : List (DataW H) → Nat
  | [] => 0
  | d :: r => uptoBulk d + uptoBulkAll r
def uptoBulkEntries {H : Type} : List (Lit × DataW H) → Nat
  | [] => 0
  | x :: r => uptoBulkEntry x + uptoBulkEntries r
def uptoBulkEntry {H : Type} : Lit × DataW H → Nat
  | (.string bytes, d) => bytes.length + uptoBulk d + 1
  | (_, d) => uptoBulk d + 1
 end
def uptoSmall : (H : Type) → List (DataW H) → Bool := fun _ ds => decide (uptoBulkAll ds ≤ 1048576)
def OpenSpec.upto (s : _root_.Go.ChangeSpec) : _root_.Go.OpenSpec := { _root_.Go.OpenSpec.ofChange s with cond := some uptoSmall }

/-- 'samaritanlaw07.RoadgraphAdjacency', WHERE WHAT IT READS IS OF BULK AT MOST 1048576: true; the input reads as it did. -/
def roadgraphAdjacencyUptoRow : OpenClaim := { program := "ytfflknhillcblaadoor", sum := "d803fa48259a040e19cd5e6b087903a0ee34739aa838d4ac8c8facd4dd7e92f8", func := "samaritan/samaritanlaw07.RoadgraphAdjacency", spec := "roadgraphAdjacency", unfollowed := true, recurses := true, named := ["math/bits.deBruijn64tab"], apart := false, laid := [("math/bits.deBruijn64tab", laid_math_bits_deBruijn64tab)], narrowed := true }
def RoadgraphAdjacencyUptoSaid : Prop := roadgraphAdjacencyUptoRow.holds Tryd.pinned (OpenSpec.upto roadgraphAdjacencySpec)

/-- 'samaritanlaw07.RoadgraphReachability', WHERE WHAT IT READS IS OF BULK AT MOST 1048576: true; the input reads as it did. -/
def roadgraphReachabilityUptoRow : OpenClaim := { program := "ytfflknhillcblaadoor", sum := "d803fa48259a040e19cd5e6b087903a0ee34739aa838d4ac8c8facd4dd7e92f8", func := "samaritan/samaritanlaw07.RoadgraphReachability", spec := "roadgraphReachability", unfollowed := true, recurses := true, named := ["math/bits.deBruijn64tab"], apart := false, laid := [("math/bits.deBruijn64tab", laid_math_bits_deBruijn64tab)], narrowed := true }
def RoadgraphReachabilityUptoSaid : Prop := roadgraphReachabilityUptoRow.holds Tryd.pinned (OpenSpec.upto roadgraphReachabilitySpec)

/-- 'samaritanlaw07.RoadgraphComponents', WHERE WHAT IT READS IS OF BULK AT MOST 1048576: true; the input reads as it did. -/
def roadgraphComponentsUptoRow : OpenClaim := { program := "ytfflknhillcblaadoor", sum := "d803fa48259a040e19cd5e6b087903a0ee34739aa838d4ac8c8facd4dd7e92f8", func := "samaritan/samaritanlaw07.RoadgraphComponents", spec := "roadgraphComponents", unfollowed := true, recurses := true, named := ["math/bits.deBruijn64tab"], apart := false, laid := [("math/bits.deBruijn64tab", laid_math_bits_deBruijn64tab)], narrowed := true }
def RoadgraphComponentsUptoSaid : Prop := roadgraphComponentsUptoRow.holds Tryd.pinned (OpenSpec.upto roadgraphComponentsSpec)

/-- 'samaritanlaw07.RoadgraphNoAliasing', WHERE WHAT IT READS IS OF BULK AT MOST 1048576: true; the input reads as it did. -/
def roadgraphNoAliasingUptoRow : OpenClaim := { program := "ytfflknhillcblaadoor", sum := "d803fa48259a040e19cd5e6b087903a0ee34739aa838d4ac8c8facd4dd7e92f8", func := "samaritan/samaritanlaw07.RoadgraphNoAliasing", spec := "roadgraphNoAliasing", unfollowed := true, recurses := true, named := ["math/bits.deBruijn64tab"], apart := false, laid := [("math/bits.deBruijn64tab", laid_math_bits_deBruijn64tab)], narrowed := true }
def RoadgraphNoAliasingUptoSaid : Prop := roadgraphNoAliasingUptoRow.holds Tryd.pinned (OpenSpec.upto roadgraphNoAliasingSpec)

/-- 'samaritanlaw07.RoadgraphMonotonic', WHERE WHAT IT READS IS OF BULK AT MOST 1048576: true; the input reads as it did. -/
def roadgraphMonotonicUptoRow : OpenClaim := { program := "ytfflknhillcblaadoor", sum := "d803fa48259a040e19cd5e6b087903a0ee34739aa838d4ac8c8facd4dd7e92f8", func := "samaritan/samaritanlaw07.RoadgraphMonotonic", spec := "roadgraphMonotonic", unfollowed := true, recurses := true, named := ["math/bits.deBruijn64tab"], apart := false, laid := [("math/bits.deBruijn64tab", laid_math_bits_deBruijn64tab)], narrowed := true }
def RoadgraphMonotonicUptoSaid : Prop := roadgraphMonotonicUptoRow.holds Tryd.pinned (OpenSpec.upto roadgraphMonotonicSpec)

/-- 'samaritanlaw07.RoadgraphReverse', WHERE WHAT IT READS IS OF BULK AT MOST 1048576: true; the input reads as it did. -/
def roadgraphReverseUptoRow : OpenClaim := { program := "ytfflknhillcblaadoor", sum := "d803fa48259a040e19cd5e6b087903a0ee34739aa838d4ac8c8facd4dd7e92f8", func := "samaritan/samaritanlaw07.RoadgraphReverse", spec := "roadgraphReverse", unfollowed := true, recurses := true, named := ["math/bits.deBruijn64tab"], apart := false, laid := [("math/bits.deBruijn64tab", laid_math_bits_deBruijn64tab)], narrowed := true }
def RoadgraphReverseUptoSaid : Prop := roadgraphReverseUptoRow.holds Tryd.pinned (OpenSpec.upto roadgraphReverseSpec)

/-- 'samaritanlaw07.RoadgraphNew', WHERE WHAT IT READS IS OF BULK AT MOST 1048576: true; the input reads as it did. -/
def roadgraphNewUptoRow : OpenClaim := { program := "ytfflknhillcblaadoor", sum := "d803fa48259a040e19cd5e6b087903a0ee34739aa838d4ac8c8facd4dd7e92f8", func := "samaritan/samaritanlaw07.RoadgraphNew", spec := "roadgraphNew", unfollowed := true, recurses := true, named := ["math/bits.deBruijn64tab"], apart := false, laid := [("math/bits.deBruijn64tab", laid_math_bits_deBruijn64tab)], narrowed := true }
def RoadgraphNewUptoSaid : Prop := roadgraphNewUptoRow.holds Tryd.pinned (OpenSpec.upto roadgraphNewSpec)

end Rows
end Go.Proofs.YtfflknhillcblaaDoor
