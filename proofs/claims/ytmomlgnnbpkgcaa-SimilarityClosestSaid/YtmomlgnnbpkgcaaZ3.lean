/- SimilarityClosest: whatever the input, the law returns true and the input reads as it did: the given statement. No condition beside it. -/
import Derived.Test.YtmomlgnnbpkgcaaV3
import Derived.Test.YtmomlgnnbpkgcaaY3
import Derived.ProofKit
import Derived.Stop.Joined
import Derived.SizedLaws
import Derived.Test.YtmomlgnnbpkgcaaRows
namespace Go.Proofs.Ytmomlgnnbpkgcaa
open Go.Sym
open Go.ChangeShapes Go.WideShapes Go.ChangeAt Go.RowKit
set_option linter.unusedVariables false
set_option linter.unusedSimpArgs false
theorem own5 : ownKnob Try.prog.godebug = none := by kernel_rfl
theorem laidOut5 : laidOutB Try.prog = true := by kernel_rfl
theorem run5 {W : World} {cs0 : Array Value} {g0 : Nat -> D} (h0 : CellsD W kTwn g0 0 cs0.toList) {cs1 : Array Value} {g1 : Nat -> D} (h1 : CellsD W kMany g1 0 cs1.toList) {cs2 : Array Value} {g2 : Nat -> D} (h2 : CellsD W kLim g2 0 cs2.toList) (hb : (g1 0).toN <= 1034834473170) :
  Calls Try.prog 5 #[.agg cs0, .agg cs1, .agg cs2] W fun e W' => e = .returned (.bool true) /\ Below W.heap.size W W' := by
 obtain ⟨c0_0, c0_1, c0_2, e0⟩ := list_3 h0.1
 have h0' := h0
 rw [e0] at h0'
 have s0_1 : DenD (zW W) (.sl kE) (g0 1) c0_1 := by obtain ⟨u, a, b⟩ := h0'.2 1 _ rfl; cases a; exact b
 have s0_2 : DenD (zW W) (.sl k1) (g0 2) c0_2 := by obtain ⟨u, a, b⟩ := h0'.2 2 _ rfl; cases a; exact b
 obtain ⟨c1_0, c1_1, c1_2, c1_3, c1_4, c1_5, c1_6, c1_7, c1_8, e1⟩ := list_9 h1.1
 have h1' := h1
 rw [e1] at h1'
 have s1_0 : DenD (zW W) (.sl kInc) (g1 0) c1_0 := by obtain ⟨u, a, b⟩ := h1'.2 0 _ rfl; cases a; exact b
 have s1_5 : DenD (zW W) (.sl k1) (g1 5) c1_5 := by obtain ⟨u, a, b⟩ := h1'.2 5 _ rfl; cases a; exact b
 obtain ⟨c2_0, c2_1, e2⟩ := list_2 h2.1
 have h2' := h2
 rw [e2] at h2'
 refine law_sls m3_good (x := ⟨decTwn g0, decL decInc (g1 0).toN (g1 0).toF, decCalAt g1 1, (g2 0).toI, (g2 1).toI⟩) (show (decL decInc (g1 0).toN (g1 0).toF).length <= 1034834473170 by rw [decL_length]; exact hb) rfl [(.bor, ⟨kE, g0 1, c0_1⟩, encL encE (decL decE3 (g0 1).toN (g0 1).toF)),
  (.bor, ⟨k1, g0 2, c0_2⟩, encL encI (decL decI1 (g0 2).toN (g0 2).toF)),
  (.bor, ⟨kInc, g1 0, c1_0⟩, encL encInc (decL decInc (g1 0).toN (g1 0).toF)),
  (.fz, ⟨k1, g1 5, c1_5⟩, encL encI (decL decI1 (g1 5).toN (g1 5).toF))] (fun m s f hm => ?_) ?_ (fun at' h => ?_) (fun _ => trivial)
 ·simp only [List.mem_cons, List.not_mem_nil, or_false, Prod.mk.injEq] at hm
  rcases hm with ⟨rfl, rfl, rfl⟩ | ⟨rfl, rfl, rfl⟩ | ⟨rfl, rfl, rfl⟩ | ⟨rfl, rfl, rfl⟩
  ·exact ⟨s0_1, rowsEq_dec decE3_eq _ _, rfl⟩
  ·exact ⟨s0_2, rowsEq_dec decI1_eq _ _, rfl⟩
  ·exact ⟨s1_0, rowsEq_dec decInc_eq _ _, rfl⟩
  ·exact ⟨s1_5, rowsEq_dec decI1_eq _ _, rfl⟩
 ·show m3H _ = _
  simp only [m3A, m3H, twA, twH, manyA, decTwn, decCalAt, decInts, decL_length]
  rfl
 ·have a0 := agg_den (l := 100000) h0 (at' := at') (fun i s hi => by
   rw [e0] at hi
   match i, hi with
   | 0, hi => cases hi; exact h 0 _ _ _ rfl
   | 1, hi => cases hi; exact h 1 _ _ _ rfl
   | i + 2, hi => cases hi)
  have a1 := agg_den (l := 100002) h1 (at' := at') (fun i s hi => by
   rw [e1] at hi
   match i, hi with
   | 0, hi => cases hi; exact h 2 _ _ _ rfl
   | 1, hi => cases hi; exact h 3 _ _ _ rfl
   | i + 2, hi => cases hi)
  have a2 := agg_den (l := 100004) h2 (at' := at') (fun i s hi => by
   rw [e2] at hi
   match i, hi with
   | i, hi => cases hi)
  have hl := DenL_cons.2 ⟨a0, DenL_cons.2 ⟨a1, DenL_cons.2 ⟨a2, (by simp [DenL] : DenL _ [] [])⟩⟩⟩
  show DenL _ (m3A _) _
  simp only [m3A, m3H, twA, twH, manyA, decTwn, decCalAt, decInts, decL_length]
  exact hl
set_option maxRecDepth 100000 in
theorem lifted5 (os : Os) (started : os.Started) (H : Type) (enc : TypeId × Value -> H) :
  ReturnsInHanded {} Try.checked os 5 .any (Rows.similarityClosestSpec.pre6 enc Try.prog Try.f5 Rows.similarityClosestRow.domain false) (Rows.similarityClosestSpec.post enc Try.prog Try.f5 false true false false) := by
 refine returnsInHanded_of_change_sized (C := Try.checked) own5 started (by kernel_rfl) Try.func5
  (ChangeSpec.witness6 (enc := enc) (C := Try.checked) false ⟨#[], #[.agg #[.int .i64 0, .slice none 0 0, .slice none 0 0], .agg #[.slice none 0 0, .int .i64 0, .int .i64 0, .int .i64 0, .string ⟨#[]⟩, .slice none 0 0, .int .i64 0, .int .i64 0, .bool false], .agg #[.int .i64 0, .int .i64 0]], []⟩ 8 (by kernel_rfl) (by kernel_rfl) (by kernel_rfl) (by kernel_rfl)) ?_
 intro W base args ds gs before hval0 hW hcnd hwt _
 have hval : ∀ (j : Nat) t v, Try.f5.params[j]? = some t -> args[j]? = some v -> Value.okWide Try.prog W .any base t v := hval0
 have hW' := hW
 obtain ⟨p, q, hA0, hV, rfl, hfz, hnd⟩ := hW
 have hA : DataW.TrodAll enc Try.prog W 0 (fun _ => true) true Try.f5.params.toList args.toList ds p := hA0
 rw [Try.params5] at hA hval
 obtain ⟨v0, vs0, d0, ds0, p0, q0, hargs, rfl, rfl, h0, r0⟩ := trodAll_cons hA
 obtain ⟨v1, vs1, d1, ds1, p1, q1, rfl, rfl, rfl, h1, r1⟩ := trodAll_cons r0
 obtain ⟨v2, vs2, d2, ds2, p2, q2, rfl, rfl, rfl, h2, r2⟩ := trodAll_cons r1
 obtain ⟨rfl, rfl, rfl⟩ := trodAll_nil r2
 obtain rfl : args = #[v0, v1, v2] := by cases args; simp_all
 obtain ⟨rfl, rfl⟩ := trodVars_none hV
 have tk0 := h0
 have lt0 : ∀ x ∈ p0, x.block < W.heap.size := by obtain ⟨m, hm⟩ := tk0; exact DataW.trod_lt m _ _ _ hm
 obtain ⟨cs0, rfl, hc0⟩ := okWide_struct Try.underlying27 (hval 0 27 v0 rfl rfl)
 obtain ⟨g0, z0⟩ := struct_cells (ks := kTwn) tok (by kernel_rfl) (hc0.trans (show Try.prog.cellsOf 27 = 3 by kernel_rfl)) h0
 have tk1 := h1
 have lt1 : ∀ x ∈ p1, x.block < W.heap.size := by obtain ⟨m, hm⟩ := tk1; exact DataW.trod_lt m _ _ _ hm
 obtain ⟨cs1, rfl, hc1⟩ := okWide_struct Try.underlying49 (hval 1 49 v1 rfl rfl)
 obtain ⟨g1, z1⟩ := struct_cells (ks := kMany) tok (by kernel_rfl) (hc1.trans (show Try.prog.cellsOf 49 = 9 by kernel_rfl)) h1
 have tk2 := h2
 have lt2 : ∀ x ∈ p2, x.block < W.heap.size := by obtain ⟨m, hm⟩ := tk2; exact DataW.trod_lt m _ _ _ hm
 obtain ⟨cs2, rfl, hc2⟩ := okWide_struct Try.underlying43 (hval 2 43 v2 rfl rfl)
 obtain ⟨g2, z2⟩ := struct_cells (ks := kLim) tok (by kernel_rfl) (hc2.trans (show Try.prog.cellsOf 43 = 2 by kernel_rfl)) h2
 clear hA0 hval0
 have hb := many_len tk1 z1 (by
  rw [List.all_eq_true] at hwt ⊢
  intro y hy
  refine hwt y ?_
  rw [Try.params5]
  exact List.mem_append.2 (.inr (List.mem_append.2 (.inl hy))))
 refine (run5 z0 z1 z2 hb).mono fun e W' ⟨he, bel⟩ => ?_
 subst he
 exact ⟨_, rfl, _, _, _, [], _, [], hW', trodAll_mk1 (shut_bool Try.underlying4 _), (trodAll_cons_mk (Below.trod laidOut5 (by kernel_rfl) (of_decide_eq_true (by kernel_rfl)) tk0 bel lt0) (trodAll_cons_mk (Below.trod laidOut5 (by kernel_rfl) (of_decide_eq_true (by kernel_rfl)) tk1 bel lt1) (trodAll_cons_mk (Below.trod laidOut5 (by kernel_rfl) (of_decide_eq_true (by kernel_rfl)) tk2 bel lt2) trodAll_mk0))), rfl, bel.frame _, fun h => by cases h⟩
theorem similarityClosest_over : Rows.similarityClosestRow.holds Try.pinned (OpenSpec.ofChange Rows.similarityClosestSpec) :=
 OpenClaim.holds_of_wide 5 Try.f5 rfl rfl rfl rfl rfl rfl rfl ⟨rfl, rfl, rfl, rfl, rfl⟩ rfl rfl rfl rfl rfl (by kernel_rfl) Try.func5 (by kernel_rfl)
  (of_decide_eq_true (by kernel_rfl)) (by unfold Func.isWrapper; first | (rw [if_pos (by decide +kernel)]; kernel_rfl) | (rw [if_neg (by decide +kernel)]; exact ⟨rfl, rfl⟩))
  (fun os started H enc _ => lifted5 os started H enc)
theorem similarityClosest_proved : Rows.SimilarityClosestSaid := similarityClosest_over
end Go.Proofs.Ytmomlgnnbpkgcaa
