/- StatusSilent: whatever the input, the law returns true and the input reads as it did: the given statement. No condition beside it. -/
import Derived.Test.YtpggcpinebbjgaaW8
import Derived.Test.YtpggcpinebbjgaaL3
namespace Go.Proofs.Ytpggcpinebbjgaa
open Go.Sym
open Go.ChangeShapes Go.WideShapes Go.ChangeAt Go.RowKit
set_option linter.unusedVariables false

theorem walk6 (a1 a2 : Int) (v : Value) (d : D) (W : World) (h : DenD (fun b => W.heap[b]?) (.sl k6) d v) :
    Calls Try.prog 6 #[v, .int .i64 a1, .int .i64 a2] W fun e W' => e = .returned (.bool true) ∧ Below W.heap.size W W' := by
  obtain ⟨q, hq⟩ := slice_place (w := W) (fun _ _ h => h) h
  obtain ⟨q1, q2⟩ := hq (fun l => if l = 100000 then q else none) 100000 (if_pos rfl)
  have hl := decL_length decCame d.toN d.toF
  refine law_run (vals := [v, .int .i64 a1, .int .i64 a2]) silLaw_good.1 (x := ⟨decL decCame d.toN d.toF, a1, a2⟩) trivial rfl (ρ := ⟨fun l => if l = 100000 then q else none, fun b => W.heap[b]?⟩) ?_ (HSat.read ?_ ?_) ?_
  · refine DenL_cons.2 ⟨?_, DenL_cons.2 ⟨by simp only [Den], DenL_cons.2 ⟨by simp only [Den], by simp [DenL]⟩⟩⟩
    rw [hl]; exact q1
  · intro l hg
    by_cases e : l = 100000
    · subst e; cases hg
    · exact if_neg e
  · intro l b hg
    have hm := hget_mem hg
    simp only [silLawC, List.mem_singleton, Prod.mk.injEq] at hm
    obtain ⟨rfl, rfl⟩ := hm
    refine ⟨?_, rfl, rfl⟩
    rw [hl]
    exact q2.rows_eqv (rowsEq_dec decCame_eq _ _)
  · intro l b hg
    have hm := hget_mem hg
    simp only [silLawC, List.mem_singleton, Prod.mk.injEq] at hm
    obtain ⟨rfl, rfl⟩ := hm
    rfl

set_option maxRecDepth 100000 in
theorem lifted6 (os : Os) (started : os.Started) (H : Type) (enc : TypeId × Value → H) :
    ReturnsInHanded {} Try.checked os 6 .any (Rows.statusSilentSpec.pre6 enc Try.prog Try.f6 Rows.statusSilentRow.domain false) (Rows.statusSilentSpec.post enc Try.prog Try.f6 false true false false) := by
  refine returnsInHanded_of_change (C := Try.checked) own3 started (by kernel_rfl) Try.func6
    (ChangeSpec.witness6 (enc := enc) (C := Try.checked) false ⟨#[], #[.slice none 0 0, .int .i64 0, .int .i64 0], []⟩ 8 (by kernel_rfl) (by kernel_rfl) (by kernel_rfl) (by kernel_rfl)) ?_
  intro W base args ds gs before hval0 hW hcnd _
  have hval : ∀ (j : Nat) t v, Try.f6.params[j]? = some t → args[j]? = some v → Value.okWide Try.prog W .any base t v := hval0
  have hW' := hW
  obtain ⟨p, q, hA0, hV, rfl, hfz, hnd⟩ := hW
  have hA : DataW.TrodAll enc Try.prog W 0 (fun _ => true) true Try.f6.params.toList args.toList ds p := hA0
  rw [Try.params6] at hA hval
  obtain ⟨v0, vs0, d0, ds0, p0, q0, hargs, rfl, rfl, h0, r0⟩ := trodAll_cons hA
  obtain ⟨v1, vs1, d1, ds1, p1, q1, rfl, rfl, rfl, h1, r1⟩ := trodAll_cons r0
  obtain ⟨v2, vs2, d2, ds2, p2, q2, rfl, rfl, rfl, h2, r2⟩ := trodAll_cons r1
  obtain ⟨rfl, rfl, rfl⟩ := trodAll_nil r2
  obtain rfl : args = #[v0, v1, v2] := by cases args; simp_all
  obtain ⟨rfl, rfl⟩ := trodVars_none hV
  obtain ⟨a0, len0, cap0, rfl⟩ := okWide_slice Try.underlying22 (hval 0 22 v0 rfl rfl)
  have k0 := h0
  have lt0 : ∀ x ∈ p0, x.block < W.heap.size := by obtain ⟨m, hm⟩ := k0; exact DataW.trod_lt m _ _ _ hm
  obtain ⟨x0, g0, _⟩ := lift_one (k := .sl k6) tok 40 (by kernel_rfl) rfl h0
  obtain ⟨a1, rfl, rfl, rfl, w1⟩ := open_int Try.underlying2 (hval 1 2 v1 rfl rfl) h1
  obtain ⟨a2, rfl, rfl, rfl, w2⟩ := open_int Try.underlying2 (hval 2 2 v2 rfl rfl) h2
  clear hA0 hval0
  refine (walk6 a1 a2 _ x0 W g0).mono fun e W' ⟨he, bel⟩ => ?_
  subst he
  exact ⟨_, rfl, _, _, _, [], _, [], hW', trodAll_mk1 (shut_bool Try.underlying4 _), (trodAll_cons_mk (Below.trod laidOut3 (by kernel_rfl) (of_decide_eq_true (by kernel_rfl)) k0 bel lt0) (trodAll_cons_mk (shut_int Try.underlying2 w1) (trodAll_cons_mk (shut_int Try.underlying2 w2) trodAll_mk0))), rfl, bel.frame _, fun h => by cases h⟩

theorem statusSilent_over : Rows.statusSilentRow.holds Try.pinned (OpenSpec.ofChange Rows.statusSilentSpec) :=
  OpenClaim.holds_of_wide 6 Try.f6 rfl rfl rfl rfl rfl rfl rfl ⟨rfl, rfl, rfl, rfl, rfl⟩ rfl rfl rfl rfl rfl (by kernel_rfl) Try.func6 (by kernel_rfl)
    (of_decide_eq_true (by kernel_rfl)) (by unfold Func.isWrapper; first | (rw [if_pos (by decide +kernel)]; kernel_rfl) | (rw [if_neg (by decide +kernel)]; exact ⟨rfl, rfl⟩))
    (fun os started H enc _ => lifted6 os started H enc)
theorem statusSilent_proved : Rows.StatusSilentSaid := statusSilent_over
end Go.Proofs.Ytpggcpinebbjgaa
