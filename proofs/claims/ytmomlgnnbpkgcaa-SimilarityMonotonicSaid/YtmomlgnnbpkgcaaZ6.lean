/- SimilarityMonotonic: whatever the input, the law returns true and the input reads as it did: the given statement. No condition beside it. -/
import Derived.Test.YtmomlgnnbpkgcaaV3
import Derived.Test.YtmomlgnnbpkgcaaY6
import Derived.ProofKit
import Derived.Stop.Joined
import Derived.JoinedCond
import Derived.Test.YtmomlgnnbpkgcaaRows
namespace Go.Proofs.Ytmomlgnnbpkgcaa
open Go.Sym
open Go.ChangeShapes Go.WideShapes Go.ChangeAt Go.RowKit
set_option linter.unusedVariables false
set_option linter.unusedSimpArgs false
theorem own8 : ownKnob Try.prog.godebug = none := by kernel_rfl
theorem laidOut8 : laidOutB Try.prog = true := by kernel_rfl
theorem run8 {W : World} {cs0 : Array Value} {g0 : Nat -> D} (h0 : CellsD W kTwn g0 0 cs0.toList) {cs1 : Array Value} {g1 : Nat -> D} (h1 : CellsD W kTwo g1 0 cs1.toList) {cs2 : Array Value} {a2 b2 c2 e2 : Int} (h2 : cs2.toList = [.int .i64 a2, .int .i64 b2, .int .i64 c2, .int .i64 e2]) (r2 : inR .i64 a2 /\ inR .i64 b2) :
  Calls Try.prog 8 #[.agg cs0, .agg cs1, .agg cs2] W fun e W' => e = .returned (.bool true) /\ Below W.heap.size W W' := by
 obtain ⟨c0_0, c0_1, c0_2, e0⟩ := list_3 h0.1
 have h0' := h0
 rw [e0] at h0'
 have s0_1 : DenD (zW W) (.sl kE) (g0 1) c0_1 := by obtain ⟨u, a, b⟩ := h0'.2 1 _ rfl; cases a; exact b
 have s0_2 : DenD (zW W) (.sl k1) (g0 2) c0_2 := by obtain ⟨u, a, b⟩ := h0'.2 2 _ rfl; cases a; exact b
 obtain ⟨c1_0, c1_1, c1_2, c1_3, c1_4, c1_5, c1_6, c1_7, c1_8, c1_9, c1_10, c1_11, c1_12, c1_13, c1_14, c1_15, c1_16, c1_17, e1⟩ := list_18 h1.1
 have h1' := h1
 rw [e1] at h1'
 have s1_3 : DenD (zW W) (.sl k1) (g1 3) c1_3 := by obtain ⟨u, a, b⟩ := h1'.2 3 _ rfl; cases a; exact b
 have s1_6 : DenD (zW W) (.sl k1) (g1 6) c1_6 := by obtain ⟨u, a, b⟩ := h1'.2 6 _ rfl; cases a; exact b
 have s1_7 : DenD (zW W) (.sl k1) (g1 7) c1_7 := by obtain ⟨u, a, b⟩ := h1'.2 7 _ rfl; cases a; exact b
 have s1_14 : DenD (zW W) (.sl k1) (g1 14) c1_14 := by obtain ⟨u, a, b⟩ := h1'.2 14 _ rfl; cases a; exact b
 refine law_sls q6_good (x := ⟨decTwn g0, ⟨decIncAt g1 0, decCalAt g1 10⟩, [a2, b2, c2, e2]⟩) ⟨r2.1.1, r2.2.1⟩ rfl [(.bor, ⟨kE, g0 1, c0_1⟩, encL encE (decL decE3 (g0 1).toN (g0 1).toF)),
  (.bor, ⟨k1, g0 2, c0_2⟩, encL encI (decL decI1 (g0 2).toN (g0 2).toF)),
  (.fz, ⟨k1, g1 3, c1_3⟩, encL encI (decL decI1 (g1 3).toN (g1 3).toF)),
  (.fz, ⟨k1, g1 6, c1_6⟩, encL encI (decL decI1 (g1 6).toN (g1 6).toF)),
  (.fz, ⟨k1, g1 7, c1_7⟩, encL encI (decL decI1 (g1 7).toN (g1 7).toF)),
  (.fz, ⟨k1, g1 14, c1_14⟩, encL encI (decL decI1 (g1 14).toN (g1 14).toF))] (fun m s f hm => ?_) ?_ (fun at' h => ?_) (fun _ => trivial)
 ·simp only [List.mem_cons, List.not_mem_nil, or_false, Prod.mk.injEq] at hm
  rcases hm with ⟨rfl, rfl, rfl⟩ | ⟨rfl, rfl, rfl⟩ | ⟨rfl, rfl, rfl⟩ | ⟨rfl, rfl, rfl⟩ | ⟨rfl, rfl, rfl⟩ | ⟨rfl, rfl, rfl⟩
  ·exact ⟨s0_1, rowsEq_dec decE3_eq _ _, rfl⟩
  ·exact ⟨s0_2, rowsEq_dec decI1_eq _ _, rfl⟩
  ·exact ⟨s1_3, rowsEq_dec decI1_eq _ _, rfl⟩
  ·exact ⟨s1_6, rowsEq_dec decI1_eq _ _, rfl⟩
  ·exact ⟨s1_7, rowsEq_dec decI1_eq _ _, rfl⟩
  ·exact ⟨s1_14, rowsEq_dec decI1_eq _ _, rfl⟩
 ·show q6H _ = _
  simp only [q6A, q6H, twA, twH, icA, icH, decTwn, decIncAt, decCalAt, decInts, decL_length]
  rfl
 ·have a0 := agg_den (l := 100000) h0 (at' := at') (fun i s hi => by
   rw [e0] at hi
   match i, hi with
   | 0, hi => cases hi; exact h 0 _ _ _ rfl
   | 1, hi => cases hi; exact h 1 _ _ _ rfl
   | i + 2, hi => cases hi)
  have a1 := agg_den (l := 100002) h1 (at' := at') (fun i s hi => by
   rw [e1] at hi
   match i, hi with
   | 0, hi => cases hi; exact h 2 _ _ _ rfl
   | 1, hi => cases hi; exact h 3 _ _ _ rfl
   | 2, hi => cases hi; exact h 4 _ _ _ rfl
   | 3, hi => cases hi; exact h 5 _ _ _ rfl
   | i + 4, hi => cases hi)
  have a2 := arr4_den (at' := at') (W := W) h2
  have hl := DenL_cons.2 ⟨a0, DenL_cons.2 ⟨a1, DenL_cons.2 ⟨a2, (by simp [DenL] : DenL _ [] [])⟩⟩⟩
  show DenL _ (q6A _) _
  simp only [q6A, q6H, twA, twH, icA, icH, decTwn, decIncAt, decCalAt, decInts, decL_length]
  exact hl
set_option maxRecDepth 100000 in
theorem lifted8 (os : Os) (started : os.Started) (H : Type) (enc : TypeId × Value -> H) :
  ReturnsInHanded {} Try.checked os 8 .any (Rows.similarityMonotonicSpec.pre6 enc Try.prog Try.f8 Rows.similarityMonotonicRow.domain false) (Rows.similarityMonotonicSpec.post enc Try.prog Try.f8 false true false false) := by
 refine returnsInHanded_of_change (C := Try.checked) own8 started (by kernel_rfl) Try.func8
  (ChangeSpec.witness6 (enc := enc) (C := Try.checked) false ⟨#[], #[.agg #[.int .i64 0, .slice none 0 0, .slice none 0 0], .agg #[.int .i64 0, .int .i64 0, .string ⟨#[]⟩, .slice none 0 0, .int .i64 0, .int .i64 0, .slice none 0 0, .slice none 0 0, .int .i64 0, .bool false, .int .i64 0, .int .i64 0, .int .i64 0, .string ⟨#[]⟩, .slice none 0 0, .int .i64 0, .int .i64 0, .bool false], .agg #[.int .i64 0, .int .i64 0, .int .i64 0, .int .i64 0]], []⟩ 8 (by kernel_rfl) (by kernel_rfl) (by kernel_rfl) (by kernel_rfl)) ?_
 intro W base args ds gs before hval0 hW hcnd _
 have hval : ∀ (j : Nat) t v, Try.f8.params[j]? = some t -> args[j]? = some v -> Value.okWide Try.prog W .any base t v := hval0
 have hW' := hW
 obtain ⟨p, q, hA0, hV, rfl, hfz, hnd⟩ := hW
 have hA : DataW.TrodAll enc Try.prog W 0 (fun _ => true) true Try.f8.params.toList args.toList ds p := hA0
 rw [Try.params8] at hA hval
 obtain ⟨v0, vs0, d0, ds0, p0, q0, hargs, rfl, rfl, h0, r0⟩ := trodAll_cons hA
 obtain ⟨v1, vs1, d1, ds1, p1, q1, rfl, rfl, rfl, h1, r1⟩ := trodAll_cons r0
 obtain ⟨v2, vs2, d2, ds2, p2, q2, rfl, rfl, rfl, h2, r2⟩ := trodAll_cons r1
 obtain ⟨rfl, rfl, rfl⟩ := trodAll_nil r2
 obtain rfl : args = #[v0, v1, v2] := by cases args; simp_all
 obtain ⟨rfl, rfl⟩ := trodVars_none hV
 have tk0 := h0
 have lt0 : ∀ x ∈ p0, x.block < W.heap.size := by obtain ⟨m, hm⟩ := tk0; exact DataW.trod_lt m _ _ _ hm
 obtain ⟨cs0, rfl, hc0⟩ := okWide_struct Try.underlying27 (hval 0 27 v0 rfl rfl)
 obtain ⟨g0, z0⟩ := struct_cells (ks := kTwn) tok (by kernel_rfl) (hc0.trans (show Try.prog.cellsOf 27 = 3 by kernel_rfl)) h0
 have tk1 := h1
 have lt1 : ∀ x ∈ p1, x.block < W.heap.size := by obtain ⟨m, hm⟩ := tk1; exact DataW.trod_lt m _ _ _ hm
 obtain ⟨cs1, rfl, hc1⟩ := okWide_struct Try.underlying41 (hval 1 41 v1 rfl rfl)
 obtain ⟨g1, z1⟩ := struct_cells (ks := kTwo) tok (by kernel_rfl) (hc1.trans (show Try.prog.cellsOf 41 = 18 by kernel_rfl)) h1
 have tk2 := h2
 have lt2 : ∀ x ∈ p2, x.block < W.heap.size := by obtain ⟨m, hm⟩ := tk2; exact DataW.trod_lt m _ _ _ hm
 obtain ⟨cs2, rfl, hc2⟩ := okWide_array' Try.underlying60 (hval 2 60 v2 rfl rfl)
 obtain ⟨a2, b2, c2, e2, z2, ra2, rb2⟩ := arr4_in h2
 clear hA0 hval0
 refine (run8 z0 z1 z2 ⟨ra2, rb2⟩).mono fun e W' ⟨he, bel⟩ => ?_
 subst he
 exact ⟨_, rfl, _, _, _, [], _, [], hW', trodAll_mk1 (shut_bool Try.underlying4 _), (trodAll_cons_mk (Below.trod laidOut8 (by kernel_rfl) (of_decide_eq_true (by kernel_rfl)) tk0 bel lt0) (trodAll_cons_mk (Below.trod laidOut8 (by kernel_rfl) (of_decide_eq_true (by kernel_rfl)) tk1 bel lt1) (trodAll_cons_mk (Below.trod laidOut8 (by kernel_rfl) (of_decide_eq_true (by kernel_rfl)) tk2 bel lt2) trodAll_mk0))), rfl, bel.frame _, fun h => by cases h⟩
theorem similarityMonotonic_over : Rows.similarityMonotonicRow.holds Try.pinned (OpenSpec.ofChange Rows.similarityMonotonicSpec) :=
 OpenClaim.holds_of_wide 8 Try.f8 rfl rfl rfl rfl rfl rfl rfl ⟨rfl, rfl, rfl, rfl, rfl⟩ rfl rfl rfl rfl rfl (by kernel_rfl) Try.func8 (by kernel_rfl)
  (of_decide_eq_true (by kernel_rfl)) (by unfold Func.isWrapper; first | (rw [if_pos (by decide +kernel)]; kernel_rfl) | (rw [if_neg (by decide +kernel)]; exact ⟨rfl, rfl⟩))
  (fun os started H enc _ => lifted8 os started H enc)
theorem similarityMonotonic_proved : Rows.SimilarityMonotonicSaid := similarityMonotonic_over
end Go.Proofs.Ytmomlgnnbpkgcaa