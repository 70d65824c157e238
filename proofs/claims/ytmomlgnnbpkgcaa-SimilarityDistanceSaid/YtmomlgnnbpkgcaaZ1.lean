/- SimilarityDistance: whatever the input, the law returns true and the input reads as it did: the given statement. No condition beside it. -/
import Derived.Test.YtmomlgnnbpkgcaaV2
import Derived.Test.YtmomlgnnbpkgcaaY1
import Derived.ProofKit
import Derived.Stop.Joined
import Derived.Test.YtmomlgnnbpkgcaaRows
namespace Go.Proofs.Ytmomlgnnbpkgcaa
open Go.Sym
open Go.ChangeShapes Go.WideShapes Go.ChangeAt Go.RowKit
set_option linter.unusedVariables false
set_option linter.unusedSimpArgs false
theorem own3 : ownKnob Try.prog.godebug = none := by kernel_rfl
theorem laidOut3 : laidOutB Try.prog = true := by kernel_rfl
theorem run3 {W : World} {cs0 : Array Value} {g0 : Nat -> D} (h0 : CellsD W kTwn g0 0 cs0.toList) {v1 : Value} {d1 : D} (h1 : DenD (zW W) (.sl k1) d1 v1) {v2 : Value} {d2 : D} (h2 : DenD (zW W) (.sl k1) d2 v2) :
  Calls Try.prog 3 #[.agg cs0, v1, v2] W fun e W' => e = .returned (.bool true) /\ Below W.heap.size W W' := by
 obtain ⟨c0_0, c0_1, c0_2, e0⟩ := list_3 h0.1
 have h0' := h0
 rw [e0] at h0'
 have s0_1 : DenD (zW W) (.sl kE) (g0 1) c0_1 := by obtain ⟨u, a, b⟩ := h0'.2 1 _ rfl; cases a; exact b
 have s0_2 : DenD (zW W) (.sl k1) (g0 2) c0_2 := by obtain ⟨u, a, b⟩ := h0'.2 2 _ rfl; cases a; exact b
 refine law_sls d3_good (x := ⟨decTwn g0, decL decI1 d1.toN d1.toF, decL decI1 d2.toN d2.toF⟩) trivial rfl [(.bor, ⟨kE, g0 1, c0_1⟩, encL encE (decL decE3 (g0 1).toN (g0 1).toF)),
  (.bor, ⟨k1, g0 2, c0_2⟩, encL encI (decL decI1 (g0 2).toN (g0 2).toF)),
  (.bor, ⟨k1, d1, v1⟩, encL encI (decL decI1 (d1).toN (d1).toF)),
  (.bor, ⟨k1, d2, v2⟩, encL encI (decL decI1 (d2).toN (d2).toF))] (fun m s f hm => ?_) ?_ (fun at' h => ?_) (fun _ => trivial)
 ·simp only [List.mem_cons, List.not_mem_nil, or_false, Prod.mk.injEq] at hm
  rcases hm with ⟨rfl, rfl, rfl⟩ | ⟨rfl, rfl, rfl⟩ | ⟨rfl, rfl, rfl⟩ | ⟨rfl, rfl, rfl⟩
  ·exact ⟨s0_1, rowsEq_dec decE3_eq _ _, rfl⟩
  ·exact ⟨s0_2, rowsEq_dec decI1_eq _ _, rfl⟩
  ·exact ⟨h1, rowsEq_dec decI1_eq _ _, rfl⟩
  ·exact ⟨h2, rowsEq_dec decI1_eq _ _, rfl⟩
 ·show d3H _ = _
  simp only [d3A, d3H, twA, twH, decTwn, decInts, decL_length]
  rfl
 ·have a0 := agg_den (l := 100000) h0 (at' := at') (fun i s hi => by
   rw [e0] at hi
   match i, hi with
   | 0, hi => cases hi; exact h 0 _ _ _ rfl
   | 1, hi => cases hi; exact h 1 _ _ _ rfl
   | i + 2, hi => cases hi)
  have a1 := h 2 _ _ _ rfl
  have a2 := h 3 _ _ _ rfl
  have hl := DenL_cons.2 ⟨a0, DenL_cons.2 ⟨a1, DenL_cons.2 ⟨a2, (by simp [DenL] : DenL _ [] [])⟩⟩⟩
  show DenL _ (d3A _) _
  simp only [d3A, d3H, twA, twH, decTwn, decInts, decL_length]
  exact hl
set_option maxRecDepth 100000 in
theorem lifted3 (os : Os) (started : os.Started) (H : Type) (enc : TypeId × Value -> H) :
  ReturnsInHanded {} Try.checked os 3 .any (Rows.similarityDistanceSpec.pre6 enc Try.prog Try.f3 Rows.similarityDistanceRow.domain false) (Rows.similarityDistanceSpec.post enc Try.prog Try.f3 false true false false) := by
 refine returnsInHanded_of_change (C := Try.checked) own3 started (by kernel_rfl) Try.func3
  (ChangeSpec.witness6 (enc := enc) (C := Try.checked) false ⟨#[], #[.agg #[.int .i64 0, .slice none 0 0, .slice none 0 0], .slice none 0 0, .slice none 0 0], []⟩ 8 (by kernel_rfl) (by kernel_rfl) (by kernel_rfl) (by kernel_rfl)) ?_
 intro W base args ds gs before hval0 hW hcnd _
 have hval : ∀ (j : Nat) t v, Try.f3.params[j]? = some t -> args[j]? = some v -> Value.okWide Try.prog W .any base t v := hval0
 have hW' := hW
 obtain ⟨p, q, hA0, hV, rfl, hfz, hnd⟩ := hW
 have hA : DataW.TrodAll enc Try.prog W 0 (fun _ => true) true Try.f3.params.toList args.toList ds p := hA0
 rw [Try.params3] at hA hval
 obtain ⟨v0, vs0, d0, ds0, p0, q0, hargs, rfl, rfl, h0, r0⟩ := trodAll_cons hA
 obtain ⟨v1, vs1, d1, ds1, p1, q1, rfl, rfl, rfl, h1, r1⟩ := trodAll_cons r0
 obtain ⟨v2, vs2, d2, ds2, p2, q2, rfl, rfl, rfl, h2, r2⟩ := trodAll_cons r1
 obtain ⟨rfl, rfl, rfl⟩ := trodAll_nil r2
 obtain rfl : args = #[v0, v1, v2] := by cases args; simp_all
 obtain ⟨rfl, rfl⟩ := trodVars_none hV
 have tk0 := h0
 have lt0 : ∀ x ∈ p0, x.block < W.heap.size := by obtain ⟨m, hm⟩ := tk0; exact DataW.trod_lt m _ _ _ hm
 obtain ⟨cs0, rfl, hc0⟩ := okWide_struct Try.underlying27 (hval 0 27 v0 rfl rfl)
 obtain ⟨g0, z0⟩ := struct_cells (ks := kTwn) tok (by kernel_rfl) (hc0.trans (show Try.prog.cellsOf 27 = 3 by kernel_rfl)) h0
 have tk1 := h1
 have lt1 : ∀ x ∈ p1, x.block < W.heap.size := by obtain ⟨m, hm⟩ := tk1; exact DataW.trod_lt m _ _ _ hm
 obtain ⟨b1, len1, cap1, rfl⟩ := okWide_slice Try.underlying28 (hval 1 28 v1 rfl rfl)
 obtain ⟨x1, z1, _⟩ := lift_one (k := .sl k1) tok 40 (by kernel_rfl) rfl h1
 have tk2 := h2
 have lt2 : ∀ x ∈ p2, x.block < W.heap.size := by obtain ⟨m, hm⟩ := tk2; exact DataW.trod_lt m _ _ _ hm
 obtain ⟨b2, len2, cap2, rfl⟩ := okWide_slice Try.underlying28 (hval 2 28 v2 rfl rfl)
 obtain ⟨x2, z2, _⟩ := lift_one (k := .sl k1) tok 40 (by kernel_rfl) rfl h2
 clear hA0 hval0
 refine (run3 z0 z1 z2).mono fun e W' ⟨he, bel⟩ => ?_
 subst he
 exact ⟨_, rfl, _, _, _, [], _, [], hW', trodAll_mk1 (shut_bool Try.underlying4 _), (trodAll_cons_mk (Below.trod laidOut3 (by kernel_rfl) (of_decide_eq_true (by kernel_rfl)) tk0 bel lt0) (trodAll_cons_mk (Below.trod laidOut3 (by kernel_rfl) (of_decide_eq_true (by kernel_rfl)) tk1 bel lt1) (trodAll_cons_mk (Below.trod laidOut3 (by kernel_rfl) (of_decide_eq_true (by kernel_rfl)) tk2 bel lt2) trodAll_mk0))), rfl, bel.frame _, fun h => by cases h⟩
theorem similarityDistance_over : Rows.similarityDistanceRow.holds Try.pinned (OpenSpec.ofChange Rows.similarityDistanceSpec) :=
 OpenClaim.holds_of_wide 3 Try.f3 rfl rfl rfl rfl rfl rfl rfl ⟨rfl, rfl, rfl, rfl, rfl⟩ rfl rfl rfl rfl rfl (by kernel_rfl) Try.func3 (by kernel_rfl)
  (of_decide_eq_true (by kernel_rfl)) (by unfold Func.isWrapper; first | (rw [if_pos (by decide +kernel)]; kernel_rfl) | (rw [if_neg (by decide +kernel)]; exact ⟨rfl, rfl⟩))
  (fun os started H enc _ => lifted3 os started H enc)
theorem similarityDistance_proved : Rows.SimilarityDistanceSaid := similarityDistance_over
end Go.Proofs.Ytmomlgnnbpkgcaa