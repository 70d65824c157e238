import Derived.Test.YtplpefihhhcbbaaDoorT1
import Derived.Test.YtplpefihhhcbbaaDoorL1
import Derived.Test.YtplpefihhhcbbaaDoorXD
namespace Go.Sym
set_option linter.unusedVariables false
set_option linter.unusedSimpArgs false
open Go.Proofs Go.ChangeShapes Go.WideShapes Go.RowKit
def decI1 (g : Nat -> D) : Int := (g 0).toI
def decE3 (g : Nat -> D) : Ed := ⟨(g 0).toI, (g 1).toI, (g 2).toI⟩
def decU10 (g : Nat -> D) : Un := ⟨(g 0).toI, (g 1).toI, (g 2).toI, (g 3).toI, (g 4).toI, (g 5).toI, (g 6).toI, (g 7).toI, (g 8).toI, (g 9).toI⟩
theorem decI1_eq (g : Nat -> D) : rowEq k1 g (encI (decI1 g)) 0 := by simp only [rowEq, Kd.eqv, k1]; exact ⟨rfl, trivial⟩
theorem decE3_eq (g : Nat -> D) : rowEq kE g (encE (decE3 g)) 0 := by simp only [rowEq, Kd.eqv, kE]; exact ⟨rfl, rfl, rfl, trivial⟩
theorem decU10_eq (g : Nat -> D) : rowEq kU g (encU (decU10 g)) 0 := by simp only [rowEq, Kd.eqv, kU]; exact ⟨rfl, rfl, rfl, rfl, rfl, rfl, rfl, rfl, rfl, rfl, trivial⟩
theorem struct_in {H : Type} {enc : TypeId × Value -> H} {P : Program} {w : World} {T : List (Nat × TI)} (hT : TOk P T) {t : Nat} {ks : List Kd} {cs : Array Value} {d : DataW H} {p : List MemPlace} (hk : kdsL T 40 t = some ks) (h : DataW.Trod enc P w 0 (fun _ => true) true t (.agg cs) d p) :
  ∃ g : Nat -> D, ∀ j (hj : j < ks.length), ∃ u, cs[j]? = some u /\ DenD (fun b => w.heap[b]?) (ks[j]'hj) (g j) u /\ WfD (ks[j]'hj) (g j) := by
 obtain ⟨fl, h⟩ := h
 obtain ⟨g, hg⟩ := (trod_lift hT 40).1 t ks hk fl _ _ h
 refine ⟨g, fun j hj => ?_⟩
 obtain ⟨u, h1, h2, h3⟩ := hg j hj
 exact ⟨u, by simpa [Value.cells] using h1, h2, h3⟩
theorem case_in {H : Type} {enc : TypeId × Value -> H} {w : World} {cs : Array Value} {d : DataW H} {p : List MemPlace} (hs : cs.size = 4) (h : DataW.Trod enc Tryd.prog w 0 (fun _ => true) true 28 (.agg cs) d p) :
  ∃ (n : Int) (d1 d2 d3 : D) (v1 v2 v3 : Value), cs = #[.int .i64 n, v1, v2, v3] /\ DenD (fun b => w.heap[b]?) (.sl kE) d1 v1 /\ DenD (fun b => w.heap[b]?) (.sl k1) d2 v2 /\ DenD (fun b => w.heap[b]?) (.sl kU) d3 v3 := by
 obtain ⟨g, hg⟩ := struct_in (ks := [.int .i64, .sl kE, .sl k1, .sl kU]) tok (by kernel_rfl) h
 obtain ⟨u0, a0, b0, _⟩ := hg 0 (by decide)
 obtain ⟨u1, a1, b1, _⟩ := hg 1 (by decide)
 obtain ⟨u2, a2, b2, _⟩ := hg 2 (by decide)
 obtain ⟨u3, a3, b3, _⟩ := hg 3 (by decide)
 have b0 : u0 = .int .i64 (g 0).toI := by simpa only [DenD, List.getElem_cons_zero] using b0
 subst b0
 refine ⟨(g 0).toI, g 1, g 2, g 3, u1, u2, u3, ?_, b1, b2, b3⟩
 apply Array.ext_getElem?
 intro i
 match i with
 | 0 => simpa using a0
 | 1 => simpa using a1
 | 2 => simpa using a2
 | 3 => simpa using a3
 | i + 4 => rw [Array.getElem?_eq_none (by omega), Array.getElem?_eq_none (by simp)]
def laOf (n : Int) (d1 d2 d3 d4 : D) (u : Int) (v : Un) : LaX := ⟨n, decL decE3 d1.toN d1.toF, decL decI1 d2.toN d2.toF, decL decU10 d3.toN d3.toF, decL decI1 d4.toN d4.toF, u, v⟩
theorem la_run {f : Nat} {ext : LaX -> List SV} (hg : Good Tryd.prog f ⟨LaX, fun _ => True, fun x => laA x ++ ext x, laH, fun _ => .b true, fun _ => []⟩) {W : World} (ht : ∃ TT fz, W.heap[0]? = some (.cells tabV TT fz)) {n u : Int} {v : Un}
  {d1 d2 d3 d4 : D} {v1 v2 v3 v4 : Value} {ev : List Value} (h1 : DenD (fun b => W.heap[b]?) (.sl kE) d1 v1) (h2 : DenD (fun b => W.heap[b]?) (.sl k1) d2 v2) (h3 : DenD (fun b => W.heap[b]?) (.sl kU) d3 v3) (h4 : DenD (fun b => W.heap[b]?) (.sl k1) d4 v4)
  (he : ∀ ρ, DenL ρ (ext (laOf n d1 d2 d3 d4 u v)) ev) : Calls Tryd.prog f (.agg #[.int .i64 n, v1, v2, v3] :: v4 :: ev).toArray W fun e W' => e = .returned (.bool true) /\ Below W.heap.size W W' := by
 obtain ⟨q1, hq1⟩ := slice_place (w := W) (fun _ _ h => h) h1
 obtain ⟨q2, hq2⟩ := slice_place (w := W) (fun _ _ h => h) h2
 obtain ⟨q3, hq3⟩ := slice_place (w := W) (fun _ _ h => h) h3
 obtain ⟨q4, hq4⟩ := slice_place (w := W) (fun _ _ h => h) h4
 let at' : Nat -> Option Place := fun l => if l = 100000 then q1 else if l = 100001 then q2 else if l = 100002 then q3 else if l = 100003 then q4 else none
 obtain ⟨qa1, qb1⟩ := hq1 at' 100000 (by simp [at'])
 obtain ⟨qa2, qb2⟩ := hq2 at' 100001 (by simp [at'])
 obtain ⟨qa3, qb3⟩ := hq3 at' 100002 (by simp [at'])
 obtain ⟨qa4, qb4⟩ := hq4 at' 100003 (by simp [at'])
 have l1 := decL_length decE3 d1.toN d1.toF
 have l2 := decL_length decI1 d2.toN d2.toF
 have l3 := decL_length decU10 d3.toN d3.toF
 have l4 := decL_length decI1 d4.toN d4.toF
 refine law_run (vals := .agg #[.int .i64 n, v1, v2, v3] :: v4 :: ev) hg (x := laOf n d1 d2 d3 d4 u v) trivial rfl (ρ := ⟨at', fun b => W.heap[b]?⟩) ?_ (HSat.read ?_ ?_) ?_ ht
 ·refine DenL_cons.2 ⟨?_, DenL_cons.2 ⟨?_, he _⟩⟩
  ·show Den ⟨at', fun b => W.heap[b]?⟩ (.agg [.i .i64 n, .sl 100000 0 (decL decE3 d1.toN d1.toF).length, .sl 100001 0 (decL decI1 d2.toN d2.toF).length, .sl 100002 0 (decL decU10 d3.toN d3.toF).length]) (.agg #[.int .i64 n, v1, v2, v3])
   rw [l1, l2, l3]
   have hn : Den ⟨at', fun b => W.heap[b]?⟩ (.i .i64 n) (.int .i64 n) := by simp only [Den]
   have hl := DenL_cons.2 ⟨hn, DenL_cons.2 ⟨qa1, DenL_cons.2 ⟨qa2, DenL_cons.2 ⟨qa3, (by simp [DenL] : DenL ⟨at', fun b => W.heap[b]?⟩ [] [])⟩⟩⟩⟩
   rw [Den]
   exact ⟨_, rfl, hl⟩
  ·show Den _ (.sl 100003 0 (decL decI1 d4.toN d4.toF).length) v4; rw [l4]; exact qa4
 ·intro l hgl
  by_cases e0 : l = 100000
  ·subst e0; cases hgl
  by_cases e1 : l = 100001
  ·subst e1; cases hgl
  by_cases e2 : l = 100002
  ·subst e2; cases hgl
  by_cases e3 : l = 100003
  ·subst e3; cases hgl
  simp [at', e0, e1, e2, e3]
 ·intro l b hgl
  have hm := hget_mem hgl
  simp only [laH, List.mem_cons, List.not_mem_nil, or_false, Prod.mk.injEq] at hm
  rcases hm with ⟨rfl, rfl⟩ | ⟨rfl, rfl⟩ | ⟨rfl, rfl⟩ | ⟨rfl, rfl⟩
  ·refine ⟨?_, rfl, rfl⟩
   show BlkOk _ W _ (.rows .bor kE (decL decE3 d1.toN d1.toF).length (encL encE (decL decE3 d1.toN d1.toF)))
   rw [l1]; exact qb1.rows_eqv (rowsEq_dec decE3_eq _ _)
  ·refine ⟨?_, rfl, rfl⟩
   show BlkOk _ W _ (.rows .bor k1 (decL decI1 d2.toN d2.toF).length (encL encI (decL decI1 d2.toN d2.toF)))
   rw [l2]; exact qb2.rows_eqv (rowsEq_dec decI1_eq _ _)
  ·refine ⟨?_, rfl, rfl⟩
   show BlkOk _ W _ (.rows .bor kU (decL decU10 d3.toN d3.toF).length (encL encU (decL decU10 d3.toN d3.toF)))
   rw [l3]; exact qb3.rows_eqv (rowsEq_dec decU10_eq _ _)
  ·refine ⟨?_, rfl, rfl⟩
   show BlkOk _ W _ (.rows .bor k1 (decL decI1 d4.toN d4.toF).length (encL encI (decL decI1 d4.toN d4.toF)))
   rw [l4]; exact qb4.rows_eqv (rowsEq_dec decI1_eq _ _)
 ·intro l b hgl
  have hm := hget_mem hgl
  simp only [laH, List.mem_cons, List.not_mem_nil, or_false, Prod.mk.injEq] at hm
  rcases hm with ⟨rfl, rfl⟩ | ⟨rfl, rfl⟩ | ⟨rfl, rfl⟩ | ⟨rfl, rfl⟩ <;> rfl
end Go.Sym