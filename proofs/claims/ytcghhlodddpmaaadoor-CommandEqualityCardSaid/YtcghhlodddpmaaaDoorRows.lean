/-
  NARROWER THAN 'FOR EVERY INPUT', by the rows' own cells (each row's printed sentence says how): CommandValidity: laid · CommandEncoding: laid · CommandDecoding: laid · CommandEquality: laid · CommandMessageDecoding: laid · CommandMessageEncoding: laid · CommandNoAliasing: laid.
  DERIVED. THE GIVEN ROWS OF THIS SEAT. 7 by the template 'for every input the law returns true; each argument reads behind the call as it read before'; 0 by the template 'total and deterministic' (their statements: YtcghhlodddpmaaaDoorTotals.lean).
  GIVEN WITH THE SEED: the statements are not yours to turn. If you find one false, say at which input.
  Laid BY PROGRAM, IN A SANDBOX (cutbox-rows.mjs): the forced cells as the released guide's own fill.sh prints them over the translation f1b60ff5566c7ce5… (all of the seat's roots in one cut). By AI agents, Wed Nov 11 2026. No macro, syntax, notation, axiom, sorry.
-/
import Derived.Test.YtcghhlodddpmaaaDoorChecked
import GoSem.Claim
import GoSem.ClaimJoined
import GoSem.ClaimMapViews
import Derived.JoinedTies
import Derived.KernelRfl
namespace Go.Proofs.YtcghhlodddpmaaaDoor
/- THE CELL 'sum', in the pinned program and in every row, IS THE sha256 OF THE DUMP (.gsa) THAT YtcghhlodddpmaaaDoorProg.lean LOADS. Nothing in Lean hashes anything: it is a label: what it is worth is what the hold of that sum in a sandbox is worth. -/
noncomputable def Tryd.pinned : Pinned := { name := "ytcghhlodddpmaaadoor", sum := "f1b60ff5566c7ce512ea470b076b8e781502730e60bc200fd4dc19c568777a73", checked := Tryd.checked }
namespace Rows
def none {H : Type} : Left H := { results := [], args := [] }

/- WHAT THE LISTED PACKAGE-LEVEL VARIABLES READ AS WHEN THE CALL BEGINS. Each datum BY PROGRAM (the guide's laid-datum.mjs) off the statement by which the dump's own 'gosem.cut.vars' lays the variable. In a bare row this is a premise. The card (YtcghhlodddpmaaaDoorCards.lean) ties it to the program's text. -/
def laid_math_bits_deBruijn32tab {H : Type} : DataW H := .agg [.lit (.int .u8 0), .lit (.int .u8 1), .lit (.int .u8 28), .lit (.int .u8 2), .lit (.int .u8 29), .lit (.int .u8 14), .lit (.int .u8 24), .lit (.int .u8 3), .lit (.int .u8 30), .lit (.int .u8 22), .lit (.int .u8 20), .lit (.int .u8 15), .lit (.int .u8 25), .lit (.int .u8 17), .lit (.int .u8 4), .lit (.int .u8 8), .lit (.int .u8 31), .lit (.int .u8 27), .lit (.int .u8 13), .lit (.int .u8 23), .lit (.int .u8 21), .lit (.int .u8 19), .lit (.int .u8 16), .lit (.int .u8 7), .lit (.int .u8 26), .lit (.int .u8 12), .lit (.int .u8 18), .lit (.int .u8 6), .lit (.int .u8 11), .lit (.int .u8 5), .lit (.int .u8 10), .lit (.int .u8 9)]
def laid_math_bits_deBruijn64tab {H : Type} : DataW H := .agg [.lit (.int .u8 0), .lit (.int .u8 1), .lit (.int .u8 56), .lit (.int .u8 2), .lit (.int .u8 57), .lit (.int .u8 49), .lit (.int .u8 28), .lit (.int .u8 3), .lit (.int .u8 61), .lit (.int .u8 58), .lit (.int .u8 42), .lit (.int .u8 50), .lit (.int .u8 38), .lit (.int .u8 29), .lit (.int .u8 17), .lit (.int .u8 4), .lit (.int .u8 62), .lit (.int .u8 47), .lit (.int .u8 59), .lit (.int .u8 36), .lit (.int .u8 45), .lit (.int .u8 43), .lit (.int .u8 51), .lit (.int .u8 22), .lit (.int .u8 53), .lit (.int .u8 39), .lit (.int .u8 33), .lit (.int .u8 30), .lit (.int .u8 24), .lit (.int .u8 18), .lit (.int .u8 12), .lit (.int .u8 5), .lit (.int .u8 63), .lit (.int .u8 55), .lit (.int .u8 48), .lit (.int .u8 27), .lit (.int .u8 60), .lit (.int .u8 41), .lit (.int .u8 37), .lit (.int .u8 16), .lit (.int .u8 46), .lit (.int .u8 35), .lit (.int .u8 44), .lit (.int .u8 21), .lit (.int .u8 52), .lit (.int .u8 32), .lit (.int .u8 23), .lit (.int .u8 11), .lit (.int .u8 54), .lit (.int .u8 26), .lit (.int .u8 40), .lit (.int .u8 15), .lit (.int .u8 34), .lit (.int .u8 20), .lit (.int .u8 31), .lit (.int .u8 10), .lit (.int .u8 25), .lit (.int .u8 14), .lit (.int .u8 19), .lit (.int .u8 9), .lit (.int .u8 13), .lit (.int .u8 8), .lit (.int .u8 7), .lit (.int .u8 6)]
def laid_internal_strconv_uint64pow10 {H : Type} : DataW H := .agg [.lit (.int .u64 1), .lit (.int .u64 10), .lit (.int .u64 100), .lit (.int .u64 1000), .lit (.int .u64 10000), .lit (.int .u64 100000), .lit (.int .u64 1000000), .lit (.int .u64 10000000), .lit (.int .u64 100000000), .lit (.int .u64 1000000000), .lit (.int .u64 10000000000), .lit (.int .u64 100000000000), .lit (.int .u64 1000000000000), .lit (.int .u64 10000000000000), .lit (.int .u64 100000000000000), .lit (.int .u64 1000000000000000), .lit (.int .u64 10000000000000000), .lit (.int .u64 100000000000000000), .lit (.int .u64 1000000000000000000), .lit (.int .u64 10000000000000000000)]

/-- 'samaritanlaw43.CommandValidity': WHATEVER THE INPUT: true; the input reads as it did. -/
def commandValiditySpec : ChangeSpec := { name := "commandValidity", fn := fun _ => fun
  | [d] => { results := [.lit (.bool true)], args := [d] }
  | _ => none }
def commandValidityRow : OpenClaim := { program := "ytcghhlodddpmaaadoor", sum := "f1b60ff5566c7ce512ea470b076b8e781502730e60bc200fd4dc19c568777a73", func := "samaritan/samaritanlaw43.CommandValidity", spec := "commandValidity", inPlace := ["internal/abi.NoEscape", "internal/bytealg.MakeNoZero"], unfollowed := true, recurses := true, named := ["math/bits.deBruijn64tab", "internal/strconv.uint64pow10", "math/bits.deBruijn32tab"], apart := false, laid := [("math/bits.deBruijn32tab", laid_math_bits_deBruijn32tab), ("math/bits.deBruijn64tab", laid_math_bits_deBruijn64tab), ("internal/strconv.uint64pow10", laid_internal_strconv_uint64pow10)] }
def CommandValiditySaid : Prop := commandValidityRow.holds Tryd.pinned (OpenSpec.ofChange commandValiditySpec)

/-- ITS FALSE NEIGHBOUR: 'it returns false'. Refute it at one input. -/
def commandValidityWrong : ChangeSpec := { name := "commandValidity", fn := fun _ => fun
  | [d] => { results := [.lit (.bool false)], args := [d] }
  | _ => none }
def CommandValidityWrongFalsely : Prop := commandValidityRow.holds Tryd.pinned (OpenSpec.ofChange commandValidityWrong)

/-- 'samaritanlaw43.CommandEncoding': WHATEVER THE INPUT: true; the input reads as it did. -/
def commandEncodingSpec : ChangeSpec := { name := "commandEncoding", fn := fun _ => fun
  | [d] => { results := [.lit (.bool true)], args := [d] }
  | _ => none }
def commandEncodingRow : OpenClaim := { program := "ytcghhlodddpmaaadoor", sum := "f1b60ff5566c7ce512ea470b076b8e781502730e60bc200fd4dc19c568777a73", func := "samaritan/samaritanlaw43.CommandEncoding", spec := "commandEncoding", inPlace := ["internal/abi.NoEscape", "internal/bytealg.MakeNoZero"], unfollowed := true, recurses := true, named := ["math/bits.deBruijn64tab", "internal/strconv.uint64pow10", "math/bits.deBruijn32tab"], apart := false, laid := [("math/bits.deBruijn32tab", laid_math_bits_deBruijn32tab), ("math/bits.deBruijn64tab", laid_math_bits_deBruijn64tab), ("internal/strconv.uint64pow10", laid_internal_strconv_uint64pow10)] }
def CommandEncodingSaid : Prop := commandEncodingRow.holds Tryd.pinned (OpenSpec.ofChange commandEncodingSpec)

/-- ITS FALSE NEIGHBOUR: 'it returns false'. Refute it at one input. -/
def commandEncodingWrong : ChangeSpec := { name := "commandEncoding", fn := fun _ => fun
  | [d] => { results := [.lit (.bool false)], args := [d] }
  | _ => none }
def CommandEncodingWrongFalsely : Prop := commandEncodingRow.holds Tryd.pinned (OpenSpec.ofChange commandEncodingWrong)

/-- 'samaritanlaw43.CommandDecoding': WHATEVER THE INPUT: true; the input reads as it did. -/
def commandDecodingSpec : ChangeSpec := { name := "commandDecoding", fn := fun _ => fun
  | [d1, d2] => { results := [.lit (.bool true)], args := [d1, d2] }
  | _ => none }
def commandDecodingRow : OpenClaim := { program := "ytcghhlodddpmaaadoor", sum := "f1b60ff5566c7ce512ea470b076b8e781502730e60bc200fd4dc19c568777a73", func := "samaritan/samaritanlaw43.CommandDecoding", spec := "commandDecoding", inPlace := ["internal/abi.NoEscape", "internal/bytealg.MakeNoZero"], unfollowed := true, recurses := true, named := ["math/bits.deBruijn64tab", "internal/strconv.uint64pow10", "math/bits.deBruijn32tab"], apart := false, laid := [("math/bits.deBruijn32tab", laid_math_bits_deBruijn32tab), ("math/bits.deBruijn64tab", laid_math_bits_deBruijn64tab), ("internal/strconv.uint64pow10", laid_internal_strconv_uint64pow10)] }
def CommandDecodingSaid : Prop := commandDecodingRow.holds Tryd.pinned (OpenSpec.ofChange commandDecodingSpec)

/-- ITS FALSE NEIGHBOUR: 'it returns false'. Refute it at one input. -/
def commandDecodingWrong : ChangeSpec := { name := "commandDecoding", fn := fun _ => fun
  | [d1, d2] => { results := [.lit (.bool false)], args := [d1, d2] }
  | _ => none }
def CommandDecodingWrongFalsely : Prop := commandDecodingRow.holds Tryd.pinned (OpenSpec.ofChange commandDecodingWrong)

/-- 'samaritanlaw43.CommandEquality': WHATEVER THE INPUT: true; the input reads as it did. -/
def commandEqualitySpec : ChangeSpec := { name := "commandEquality", fn := fun _ => fun
  | [d1, d2] => { results := [.lit (.bool true)], args := [d1, d2] }
  | _ => none }
def commandEqualityRow : OpenClaim := { program := "ytcghhlodddpmaaadoor", sum := "f1b60ff5566c7ce512ea470b076b8e781502730e60bc200fd4dc19c568777a73", func := "samaritan/samaritanlaw43.CommandEquality", spec := "commandEquality", inPlace := ["internal/abi.NoEscape", "internal/bytealg.MakeNoZero"], unfollowed := true, recurses := true, named := ["math/bits.deBruijn64tab", "internal/strconv.uint64pow10", "math/bits.deBruijn32tab"], apart := false, laid := [("math/bits.deBruijn32tab", laid_math_bits_deBruijn32tab), ("math/bits.deBruijn64tab", laid_math_bits_deBruijn64tab), ("internal/strconv.uint64pow10", laid_internal_strconv_uint64pow10)] }
def CommandEqualitySaid : Prop := commandEqualityRow.holds Tryd.pinned (OpenSpec.ofChange commandEqualitySpec)

/-- ITS FALSE NEIGHBOUR: 'it returns false'. Refute it at one input. -/
def commandEqualityWrong : ChangeSpec := { name := "commandEquality", fn := fun _ => fun
  | [d1, d2] => { results := [.lit (.bool false)], args := [d1, d2] }
  | _ => none }
def CommandEqualityWrongFalsely : Prop := commandEqualityRow.holds Tryd.pinned (OpenSpec.ofChange commandEqualityWrong)

/-- 'samaritanlaw43.CommandMessageDecoding': WHATEVER THE INPUT: true; the input reads as it did. -/
def commandMessageDecodingSpec : ChangeSpec := { name := "commandMessageDecoding", fn := fun _ => fun
  | [d1, d2] => { results := [.lit (.bool true)], args := [d1, d2] }
  | _ => none }
def commandMessageDecodingRow : OpenClaim := { program := "ytcghhlodddpmaaadoor", sum := "f1b60ff5566c7ce512ea470b076b8e781502730e60bc200fd4dc19c568777a73", func := "samaritan/samaritanlaw43.CommandMessageDecoding", spec := "commandMessageDecoding", inPlace := ["internal/abi.NoEscape", "internal/bytealg.MakeNoZero"], unfollowed := true, recurses := true, named := ["math/bits.deBruijn64tab", "internal/strconv.uint64pow10", "math/bits.deBruijn32tab"], apart := false, laid := [("math/bits.deBruijn32tab", laid_math_bits_deBruijn32tab), ("math/bits.deBruijn64tab", laid_math_bits_deBruijn64tab), ("internal/strconv.uint64pow10", laid_internal_strconv_uint64pow10)] }
def CommandMessageDecodingSaid : Prop := commandMessageDecodingRow.holds Tryd.pinned (OpenSpec.ofChange commandMessageDecodingSpec)

/-- ITS FALSE NEIGHBOUR: 'it returns false'. Refute it at one input. -/
def commandMessageDecodingWrong : ChangeSpec := { name := "commandMessageDecoding", fn := fun _ => fun
  | [d1, d2] => { results := [.lit (.bool false)], args := [d1, d2] }
  | _ => none }
def CommandMessageDecodingWrongFalsely : Prop := commandMessageDecodingRow.holds Tryd.pinned (OpenSpec.ofChange commandMessageDecodingWrong)

/-- 'samaritanlaw43.CommandMessageEncoding': WHATEVER THE INPUT: true; the input reads as it did. -/
def commandMessageEncodingSpec : ChangeSpec := { name := "commandMessageEncoding", fn := fun _ => fun
  | [d] => { results := [.lit (.bool true)], args := [d] }
  | _ => none }
def commandMessageEncodingRow : OpenClaim := { program := "ytcghhlodddpmaaadoor", sum := "f1b60ff5566c7ce512ea470b076b8e781502730e60bc200fd4dc19c568777a73", func := "samaritan/samaritanlaw43.CommandMessageEncoding", spec := "commandMessageEncoding", inPlace := ["internal/abi.NoEscape", "internal/bytealg.MakeNoZero"], unfollowed := true, recurses := true, named := ["math/bits.deBruijn64tab", "internal/strconv.uint64pow10", "math/bits.deBruijn32tab"], apart := false, laid := [("math/bits.deBruijn32tab", laid_math_bits_deBruijn32tab), ("math/bits.deBruijn64tab", laid_math_bits_deBruijn64tab), ("internal/strconv.uint64pow10", laid_internal_strconv_uint64pow10)] }
def CommandMessageEncodingSaid : Prop := commandMessageEncodingRow.holds Tryd.pinned (OpenSpec.ofChange commandMessageEncodingSpec)

/-- ITS FALSE NEIGHBOUR: 'it returns false'. Refute it at one input. -/
def commandMessageEncodingWrong : ChangeSpec := { name := "commandMessageEncoding", fn := fun _ => fun
  | [d] => { results := [.lit (.bool false)], args := [d] }
  | _ => none }
def CommandMessageEncodingWrongFalsely : Prop := commandMessageEncodingRow.holds Tryd.pinned (OpenSpec.ofChange commandMessageEncodingWrong)

/-- 'samaritanlaw43.CommandNoAliasing': WHATEVER THE INPUT: true; the input reads as it did. -/
def commandNoAliasingSpec : ChangeSpec := { name := "commandNoAliasing", fn := fun _ => fun
  | [d1, d2] => { results := [.lit (.bool true)], args := [d1, d2] }
  | _ => none }
def commandNoAliasingRow : OpenClaim := { program := "ytcghhlodddpmaaadoor", sum := "f1b60ff5566c7ce512ea470b076b8e781502730e60bc200fd4dc19c568777a73", func := "samaritan/samaritanlaw43.CommandNoAliasing", spec := "commandNoAliasing", inPlace := ["internal/abi.NoEscape", "internal/bytealg.MakeNoZero"], unfollowed := true, recurses := true, named := ["math/bits.deBruijn64tab", "internal/strconv.uint64pow10", "math/bits.deBruijn32tab"], apart := false, laid := [("math/bits.deBruijn32tab", laid_math_bits_deBruijn32tab), ("math/bits.deBruijn64tab", laid_math_bits_deBruijn64tab), ("internal/strconv.uint64pow10", laid_internal_strconv_uint64pow10)] }
def CommandNoAliasingSaid : Prop := commandNoAliasingRow.holds Tryd.pinned (OpenSpec.ofChange commandNoAliasingSpec)

/-- ITS FALSE NEIGHBOUR: 'it returns false'. Refute it at one input. -/
def commandNoAliasingWrong : ChangeSpec := { name := "commandNoAliasing", fn := fun _ => fun
  | [d1, d2] => { results := [.lit (.bool false)], args := [d1, d2] }
  | _ => none }
def CommandNoAliasingWrongFalsely : Prop := commandNoAliasingRow.holds Tryd.pinned (OpenSpec.ofChange commandNoAliasingWrong)

/- THE SECOND FORM. 'bulk': how many values and letters a reading holds, each counted each time it is reached (what is shared counts as often as it is met; a slice's spare places count too). A statement '..UptoSaid' is the law's where the arguments, and the package variables that the reading takes, are together of bulk at most 1048576: NARROWER than '..Said'. Prove '..Said' where nothing that the law and all that it calls make is longer than what came in: it says more and counts as full. Else prove '..UptoSaid'. A law counts once. -/
mutual
def uptoBulk {H : Type} : DataW H → Nat
  | .lit (.string bytes) => bytes.length + 1
  | .lit _ => 1
  | .nil => 1
  | .ptr d => uptoBulk d + 1
  | .slice elems spare => uptoBulkAll elems + uptoBulkAll spare + 1
  | .agg parts => uptoBulkAll parts + 1
  | .iface _ d => uptoBulk d + 1
  | .map entries => uptoBulkEntries entries + 1
  | .held _ => 1
def uptoBulkAll {H : Type} : List (DataW H) → Nat
  | [] => 0
  | d :: r => uptoBulk d + uptoBulkAll r
def uptoBulkEntries {H : Type} : List (Lit × DataW H) → Nat
  | [] => 0
  | x :: r => uptoBulkEntry x + uptoBulkEntries r
def uptoBulkEntry {H : Type} : Lit × DataW H → Nat
  | (.string bytes, d) => bytes.length + uptoBulk d + 1
  | (_, d) => uptoBulk d + 1
 end
def uptoSmall : (H : Type) → List (DataW H) → Bool := fun _ ds => decide (uptoBulkAll ds ≤ 1048576)
def OpenSpec.upto (s : _root_.Go.ChangeSpec) : _root_.Go.OpenSpec := { _root_.Go.OpenSpec.ofChange s with cond := some uptoSmall }

/-- 'samaritanlaw43.CommandValidity', WHERE WHAT IT READS IS OF BULK AT MOST 1048576: true; the input reads as it did. -/
def commandValidityUptoRow : OpenClaim := { program := "ytcghhlodddpmaaadoor", sum := "f1b60ff5566c7ce512ea470b076b8e781502730e60bc200fd4dc19c568777a73", func := "samaritan/samaritanlaw43.CommandValidity", spec := "commandValidity", inPlace := ["internal/abi.NoEscape", "internal/bytealg.MakeNoZero"], unfollowed := true, recurses := true, named := ["math/bits.deBruijn64tab", "internal/strconv.uint64pow10", "math/bits.deBruijn32tab"], apart := false, laid := [("math/bits.deBruijn32tab", laid_math_bits_deBruijn32tab), ("math/bits.deBruijn64tab", laid_math_bits_deBruijn64tab), ("internal/strconv.uint64pow10", laid_internal_strconv_uint64pow10)], narrowed := true }
def CommandValidityUptoSaid : Prop := commandValidityUptoRow.holds Tryd.pinned (OpenSpec.upto commandValiditySpec)

/-- 'samaritanlaw43.CommandEncoding', WHERE WHAT IT READS IS OF BULK AT MOST 1048576: true; the input reads as it did. -/
def commandEncodingUptoRow : OpenClaim := { program := "ytcghhlodddpmaaadoor", sum := "f1b60ff5566c7ce512ea470b076b8e781502730e60bc200fd4dc19c568777a73", func := "samaritan/samaritanlaw43.CommandEncoding", spec := "commandEncoding", inPlace := ["internal/abi.NoEscape", "internal/bytealg.MakeNoZero"], unfollowed := true, recurses := true, named := ["math/bits.deBruijn64tab", "internal/strconv.uint64pow10", "math/bits.deBruijn32tab"], apart := false, laid := [("math/bits.deBruijn32tab", laid_math_bits_deBruijn32tab), ("math/bits.deBruijn64tab", laid_math_bits_deBruijn64tab), ("internal/strconv.uint64pow10", laid_internal_strconv_uint64pow10)], narrowed := true }
def CommandEncodingUptoSaid : Prop := commandEncodingUptoRow.holds Tryd.pinned (OpenSpec.upto commandEncodingSpec)

/-- 'samaritanlaw43.CommandDecoding', WHERE WHAT IT READS IS OF BULK AT MOST 1048576: true; the input reads as it did. -/
def commandDecodingUptoRow : OpenClaim := { program := "ytcghhlodddpmaaadoor", sum := "f1b60ff5566c7ce512ea470b076b8e781502730e60bc200fd4dc19c568777a73", func := "samaritan/samaritanlaw43.CommandDecoding", spec := "commandDecoding", inPlace := ["internal/abi.NoEscape", "internal/bytealg.MakeNoZero"], unfollowed := true, recurses := true, named := ["math/bits.deBruijn64tab", "internal/strconv.uint64pow10", "math/bits.deBruijn32tab"], apart := false, laid := [("math/bits.deBruijn32tab", laid_math_bits_deBruijn32tab), ("math/bits.deBruijn64tab", laid_math_bits_deBruijn64tab), ("internal/strconv.uint64pow10", laid_internal_strconv_uint64pow10)], narrowed := true }
def CommandDecodingUptoSaid : Prop := commandDecodingUptoRow.holds Tryd.pinned (OpenSpec.upto commandDecodingSpec)

/-- 'samaritanlaw43.CommandEquality', WHERE WHAT IT READS IS OF BULK AT MOST 1048576: true; the input reads as it did. -/
def commandEqualityUptoRow : OpenClaim := { program := "ytcghhlodddpmaaadoor", sum := "f1b60ff5566c7ce512ea470b076b8e781502730e60bc200fd4dc19c568777a73", func := "samaritan/samaritanlaw43.CommandEquality", spec := "commandEquality", inPlace := ["internal/abi.NoEscape", "internal/bytealg.MakeNoZero"], unfollowed := true, recurses := true, named := ["math/bits.deBruijn64tab", "internal/strconv.uint64pow10", "math/bits.deBruijn32tab"], apart := false, laid := [("math/bits.deBruijn32tab", laid_math_bits_deBruijn32tab), ("math/bits.deBruijn64tab", laid_math_bits_deBruijn64tab), ("internal/strconv.uint64pow10", laid_internal_strconv_uint64pow10)], narrowed := true }
def CommandEqualityUptoSaid : Prop := commandEqualityUptoRow.holds Tryd.pinned (OpenSpec.upto commandEqualitySpec)

/-- 'samaritanlaw43.CommandMessageDecoding', WHERE WHAT IT READS IS OF BULK AT MOST 1048576: true; the input reads as it did. -/
def commandMessageDecodingUptoRow : OpenClaim := { program := "ytcghhlodddpmaaadoor", sum := "f1b60ff5566c7ce512ea470b076b8e781502730e60bc200fd4dc19c568777a73", func := "samaritan/samaritanlaw43.CommandMessageDecoding", spec := "commandMessageDecoding", inPlace := ["internal/abi.NoEscape", "internal/bytealg.MakeNoZero"], unfollowed := true, recurses := true, named := ["math/bits.deBruijn64tab", "internal/strconv.uint64pow10", "math/bits.deBruijn32tab"], apart := false, laid := [("math/bits.deBruijn32tab", laid_math_bits_deBruijn32tab), ("math/bits.deBruijn64tab", laid_math_bits_deBruijn64tab), ("internal/strconv.uint64pow10", laid_internal_strconv_uint64pow10)], narrowed := true }
def CommandMessageDecodingUptoSaid : Prop := commandMessageDecodingUptoRow.holds Tryd.pinned (OpenSpec.upto commandMessageDecodingSpec)

/-- 'samaritanlaw43.CommandMessageEncoding', WHERE WHAT IT READS IS OF BULK AT MOST 1048576: true; the input reads as it did. -/
def commandMessageEncodingUptoRow : OpenClaim := { program := "ytcghhlodddpmaaadoor", sum := "f1b60ff5566c7ce512ea470b076b8e781502730e60bc200fd4dc19c568777a73", func := "samaritan/samaritanlaw43.CommandMessageEncoding", spec := "commandMessageEncoding", inPlace := ["internal/abi.NoEscape", "internal/bytealg.MakeNoZero"], unfollowed := true, recurses := true, named := ["math/bits.deBruijn64tab", "internal/strconv.uint64pow10", "math/bits.deBruijn32tab"], apart := false, laid := [("math/bits.deBruijn32tab", laid_math_bits_deBruijn32tab), ("math/bits.deBruijn64tab", laid_math_bits_deBruijn64tab), ("internal/strconv.uint64pow10", laid_internal_strconv_uint64pow10)], narrowed := true }
def CommandMessageEncodingUptoSaid : Prop := commandMessageEncodingUptoRow.holds Tryd.pinned (OpenSpec.upto commandMessageEncodingSpec)

/-- 'samaritanlaw43.CommandNoAliasing', WHERE WHAT IT READS IS OF BULK AT MOST 1048576: true; the input reads as it did. -/
def commandNoAliasingUptoRow : OpenClaim := { program := "ytcghhlodddpmaaadoor", sum := "f1b60ff5566c7ce512ea470b076b8e781502730e60bc200fd4dc19c568777a73", func := "samaritan/samaritanlaw43.CommandNoAliasing", spec := "commandNoAliasing", inPlace := ["internal/abi.NoEscape", "internal/bytealg.MakeNoZero"], unfollowed := true, recurses := true, named := ["math/bits.deBruijn64tab", "internal/strconv.uint64pow10", "math/bits.deBruijn32tab"], apart := false, laid := [("math/bits.deBruijn32tab", laid_math_bits_deBruijn32tab), ("math/bits.deBruijn64tab", laid_math_bits_deBruijn64tab), ("internal/strconv.uint64pow10", laid_internal_strconv_uint64pow10)], narrowed := true }
def CommandNoAliasingUptoSaid : Prop := commandNoAliasingUptoRow.holds Tryd.pinned (OpenSpec.upto commandNoAliasingSpec)

end Rows
end Go.Proofs.YtcghhlodddpmaaaDoor
