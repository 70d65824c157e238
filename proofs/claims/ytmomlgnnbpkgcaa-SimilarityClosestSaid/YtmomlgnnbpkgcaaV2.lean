import Derived.Test.YtmomlgnnbpkgcaaV1
import Derived.Test.YtmomlgnnbpkgcaaU9
namespace Go.Sym
set_option linter.unusedVariables false
set_option linter.unusedSimpArgs false
open Go.Proofs
def decI1 (g : Nat -> D) : Int := (g 0).toI
def decE3 (g : Nat -> D) : Ed := ⟨(g 0).toI, (g 1).toI, (g 2).toI⟩
theorem decI1_eq (g : Nat -> D) : rowEq k1 g (encI (decI1 g)) 0 := by simp only [rowEq, Kd.eqv, k1]; exact ⟨rfl, trivial⟩
theorem decE3_eq (g : Nat -> D) : rowEq kE g (encE (decE3 g)) 0 := by simp only [rowEq, Kd.eqv, kE]; exact ⟨rfl, rfl, rfl, trivial⟩
def decInts (d : D) : List Int := decL decI1 d.toN d.toF
theorem ints_len (d : D) : (decInts d).length = d.toN := decL_length _ _ _
theorem ints_eqv (d : D) : Kd.eqv (.sl k1) d (.l (decInts d).length (encL encI (decInts d))) := by
 refine ⟨(ints_len d).symm, fun r hr => ?_⟩
 exact (rowsEq_dec decI1_eq d.toN d.toF).h r hr
def decIncAt (g : Nat -> D) (c : Nat) : Inc := ⟨(g c).toI, (g (c + 1)).toI, (g (c + 2)).toS, decInts (g (c + 3)), (g (c + 4)).toI, (g (c + 5)).toI, decInts (g (c + 6)), decInts (g (c + 7)), (g (c + 8)).toI, (g (c + 9)).toB⟩
def decInc (g : Nat -> D) : Inc := decIncAt g 0
theorem decInc_eq (g : Nat -> D) : rowEq kInc g (encInc (decInc g)) 0 := by
 unfold kInc
 exact ⟨rfl, rfl, rfl, ints_eqv _, rfl, rfl, ints_eqv _, ints_eqv _, rfl, rfl, trivial⟩
def decCalAt (g : Nat -> D) (c : Nat) : Cal := ⟨(g c).toI, (g (c + 1)).toI, (g (c + 2)).toI, (g (c + 3)).toS, decInts (g (c + 4)), (g (c + 5)).toI, (g (c + 6)).toI, (g (c + 7)).toB⟩
def decTwn (g : Nat -> D) : Twn := ⟨(g 0).toI, decL decE3 (g 1).toN (g 1).toF, decInts (g 2)⟩
def kTwn : List Kd := [.int .i64, .sl kE, .sl k1]
def kTwo : List Kd := [.int .i64, .int .i64, .str, .sl k1, .int .i64, .int .i64, .sl k1, .sl k1, .int .i64, .bool, .int .i64, .int .i64, .int .i64, .str, .sl k1, .int .i64, .int .i64, .bool]
def kMany : List Kd := [.sl kInc, .int .i64, .int .i64, .int .i64, .str, .sl k1, .int .i64, .int .i64, .bool]
def kLim : List Kd := [.int .i64, .int .i64]
theorem list_2 {α : Type} {l : List α} (h : l.length = 2) : ∃ a b, l = [a, b] := by
 match l, h with
 | [a, b], _ => exact ⟨a, b, rfl⟩
theorem list_3 {α : Type} {l : List α} (h : l.length = 3) : ∃ a b c, l = [a, b, c] := by
 match l, h with
 | [a, b, c], _ => exact ⟨a, b, c, rfl⟩
theorem list_9 {α : Type} {l : List α} (h : l.length = 9) : ∃ a b c d e f g i j, l = [a, b, c, d, e, f, g, i, j] := by
 match l, h with
 | [a, b, c, d, e, f, g, i, j], _ => exact ⟨a, b, c, d, e, f, g, i, j, rfl⟩
theorem list_18 {α : Type} {l : List α} (h : l.length = 18) : ∃ a b c d e f g i j k m n o p q r s t, l = [a, b, c, d, e, f, g, i, j, k, m, n, o, p, q, r, s, t] := by
 match l, h with
 | [a, b, c, d, e, f, g, i, j, k, m, n, o, p, q, r, s, t], _ => exact ⟨a, b, c, d, e, f, g, i, j, k, m, n, o, p, q, r, s, t, rfl⟩
end Go.Sym