import Derived.Test.YtpommejalaechaaV1
import Derived.Test.YtpommejalaechaaJ13
namespace Go.Sym
set_option linter.unusedVariables false
set_option linter.unusedSimpArgs false
open Go.Proofs
def decE3 (g : Nat -> D) : Ed := ⟨(g 0).toI, (g 1).toI, (g 2).toI⟩
theorem decE3_eq (g : Nat -> D) : rowEq kE g (encE (decE3 g)) 0 := by simp only [rowEq, Kd.eqv, kE]; exact ⟨rfl, rfl, rfl, trivial⟩
def decM (g : Nat -> D) : Mv := ⟨(g 0).toI, (g 1).toI, (g 2).toI⟩
theorem decM_eq (g : Nat -> D) : rowEq kM g (encM (decM g)) 0 := by simp only [rowEq, Kd.eqv, kM]; exact ⟨rfl, rfl, rfl, trivial⟩
def decTR (d0 d1 d2 : D) : TRx := ⟨decL decE3 d0.toN d0.toF, decL decM d1.toN d1.toF, d2.toI⟩
theorem tr_ok (d0 : D) {d1 d2 : D} (h1 : WfD (.sl kM) d1) (h2 : WfD (.int .u8) d2) : TRok (decTR d0 d1 d2) := by
 refine ⟨?_, fun m hm => ?_⟩
 ·simp only [WfD] at h2
  exact h2
 ·have hm : m ∈ List.map (fun r => decM (d1.toF r)) (List.range d1.toN) := hm
  obtain ⟨r, hr, rfl⟩ := List.mem_map.1 hm
  have hr' : r < d1.toN := List.mem_range.1 hr
  simp only [WfD] at h1
  have w := WfR_iff.1 (h1.2 r hr')
  have w0 := w 0 (by decide)
  have w1 := w 1 (by decide)
  have w2 := w 2 (by decide)
  exact ⟨w0, w1, w2⟩
def lawTC : CT := ⟨TRx, TRok, trA, trH, fun _ => .b true, fun _ => []⟩
theorem top_good : Good Try.prog 3 lawTC := both_b (X := TRx) (t := fun x : TRx => decide (errN ⟨7, x.es⟩ = 0)) ty_good.1 tn_good.1
end Go.Sym