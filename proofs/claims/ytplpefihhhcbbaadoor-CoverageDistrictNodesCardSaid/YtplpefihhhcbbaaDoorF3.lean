import Derived.Test.YtplpefihhhcbbaaDoorT1
import Derived.Test.YtplpefihhhcbbaaDoorL6
import Derived.Test.YtplpefihhhcbbaaDoorXD
namespace Go.Sym
set_option linter.unusedVariables false
set_option linter.unusedSimpArgs false
open Go.Proofs Go.ChangeShapes Go.WideShapes Go.RowKit
def decI1' (g : Nat -> D) : Int := (g 0).toI
theorem decI1'_eq (g : Nat -> D) : rowEq k1 g (encI (decI1' g)) 0 := by simp only [rowEq, Kd.eqv, k1]; exact ⟨rfl, trivial⟩
theorem di_run {W : World} (ht : ∃ TT fz, W.heap[0]? = some (.cells tabV TT fz)) {u : Int} {d1 : D} {v1 : Value} (h1 : DenD (fun b => W.heap[b]?) (.sl k1) d1 v1) :
  Calls Tryd.prog 7 [v1, .int .i64 u].toArray W fun e W' => e = .returned (.bool true) /\ Below W.heap.size W W' := by
 obtain ⟨q1, hq1⟩ := slice_place (w := W) (fun _ _ h => h) h1
 let at' : Nat -> Option Place := fun l => if l = 100000 then q1 else none
 obtain ⟨qa1, qb1⟩ := hq1 at' 100000 (by simp [at'])
 have l1 := decL_length decI1' d1.toN d1.toF
 refine law_run (vals := [v1, .int .i64 u]) di_good (x := ⟨decL decI1' d1.toN d1.toF, u⟩) trivial rfl (ρ := ⟨at', fun b => W.heap[b]?⟩) ?_ (HSat.read ?_ ?_) ?_ ht
 ·refine DenL_cons.2 ⟨?_, DenL_cons.2 ⟨by simp only [Den], by simp [DenL]⟩⟩
  show Den _ (.sl 100000 0 (decL decI1' d1.toN d1.toF).length) v1; rw [l1]; exact qa1
 ·intro l hgl
  by_cases e0 : l = 100000
  ·subst e0; cases hgl
  simp [at', e0]
 ·intro l b hgl
  have hm := hget_mem hgl
  simp only [lawDi, List.mem_cons, List.not_mem_nil, or_false, Prod.mk.injEq] at hm
  obtain ⟨rfl, rfl⟩ := hm
  refine ⟨?_, rfl, rfl⟩
  show BlkOk _ W _ (.rows .bor k1 (decL decI1' d1.toN d1.toF).length (encL encI (decL decI1' d1.toN d1.toF)))
  rw [l1]; exact qb1.rows_eqv (rowsEq_dec decI1'_eq _ _)
 ·intro l b hgl
  have hm := hget_mem hgl
  simp only [lawDi, List.mem_cons, List.not_mem_nil, or_false, Prod.mk.injEq] at hm
  obtain ⟨rfl, rfl⟩ := hm
  rfl
end Go.Sym