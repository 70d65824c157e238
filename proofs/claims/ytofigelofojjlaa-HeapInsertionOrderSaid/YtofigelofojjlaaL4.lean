/- law03: HeapInsertionOrder: whatever the input, the law returns true and the input reads as it did. No condition beside the given statement. -/
import Derived.Test.YtofigelofojjlaaW4
import Derived.Test.YtofigelofojjlaaL6
namespace Go.Proofs.Ytofigelofojjlaa
open Go.Sym
open Go.ChangeShapes Go.WideShapes Go.ChangeAt Go.RowKit
set_option linter.unusedVariables false
theorem own4 : ownKnob Try.prog.godebug = none := by kernel_rfl
theorem laidOut4 : laidOutB Try.prog = true := by kernel_rfl
theorem walk4 (a1 : Int) (r1 : inR .u8 a1) (v0 : Value) (d0 : D) (W : World) (h0 : DenD (fun b => W.heap[b]?) (.sl k1) d0 v0) (u0 : WfD (.sl k1) d0) :
    Calls Try.prog 4 #[v0, .int .u8 a1] W fun e W' => e = .returned (.bool true) ∧ Below W.heap.size W W' := by
  obtain ⟨q0, hq0⟩ := slice_place (w := W) (fun _ _ h => h) h0
  obtain ⟨qa0, qb0⟩ := hq0 (fun l => if l = 100000 then q0 else none) 100000 (by simp)
  have hl0 := decL_length decInt d0.toN d0.toF
  refine law_run (vals := [v0, .int .u8 a1]) ins_good.1 (x := ⟨(decL decInt d0.toN d0.toF), a1⟩) r1 rfl (ρ := ⟨(fun l => if l = 100000 then q0 else none), fun b => W.heap[b]?⟩) ?_ (HSat.read ?_ ?_) ?_
  · exact DenL_cons.2 ⟨(by rw [hl0]; exact qa0), DenL_cons.2 ⟨by simp only [Den], by simp [DenL]⟩⟩
  · intro l hg
    by_cases e0 : l = 100000
    · subst e0; cases hg
    simp [e0]
  · intro l b hg
    have hm := hget_mem hg
    simp only [insC, List.mem_cons, List.not_mem_nil, or_false, Prod.mk.injEq] at hm
    rcases hm with ⟨rfl, rfl⟩
    · refine ⟨?_, rfl, rfl⟩
      rw [hl0]
      exact qb0.rows_eqv (rowsEq_dec decInt_eq _ _)
  · intro l b hg
    have hm := hget_mem hg
    simp only [insC, List.mem_cons, List.not_mem_nil, or_false, Prod.mk.injEq] at hm
    rcases hm with ⟨rfl, rfl⟩
    · rfl

set_option maxRecDepth 100000 in
theorem lifted4 (os : Os) (started : os.Started) (H : Type) (enc : TypeId × Value → H) :
    ReturnsInHanded {} Try.checked os 4 .any (Rows.heapInsertionOrderSpec.pre6 enc Try.prog Try.f4 Rows.heapInsertionOrderRow.domain false) (Rows.heapInsertionOrderSpec.post enc Try.prog Try.f4 false true false false) := by
  refine returnsInHanded_of_change (C := Try.checked) own4 started (by kernel_rfl) Try.func4
    (ChangeSpec.witness6 (enc := enc) (C := Try.checked) false ⟨#[], #[.slice none 0 0, .int .u8 0], []⟩ 8 (by kernel_rfl) (by kernel_rfl) (by kernel_rfl) (by kernel_rfl)) ?_
  intro W base args ds gs before hval0 hW hcnd _
  have hval : ∀ (j : Nat) t v, Try.f4.params[j]? = some t → args[j]? = some v → Value.okWide Try.prog W .any base t v := hval0
  have hW' := hW
  obtain ⟨p, q, hA0, hV, rfl, hfz, hnd⟩ := hW
  have hA : DataW.TrodAll enc Try.prog W 0 (fun _ => true) true Try.f4.params.toList args.toList ds p := hA0
  rw [Try.params4] at hA hval
  obtain ⟨v0, vs0, d0, ds0, p0, q0, hargs, rfl, rfl, h0, r0⟩ := trodAll_cons hA
  obtain ⟨v1, vs1, d1, ds1, p1, q1, rfl, rfl, rfl, h1, r1⟩ := trodAll_cons r0
  obtain ⟨rfl, rfl, rfl⟩ := trodAll_nil r1
  obtain rfl : args = #[v0, v1] := by cases args; simp_all
  obtain ⟨rfl, rfl⟩ := trodVars_none hV
  obtain ⟨b0, len0, cap0, rfl⟩ := okWide_slice Try.underlying39 (hval 0 39 v0 rfl rfl)
  have tr0 := h0
  have lt0 : ∀ x ∈ p0, x.block < W.heap.size := by obtain ⟨m, hm⟩ := tr0; exact DataW.trod_lt m _ _ _ hm
  obtain ⟨x0, g0, u0⟩ := lift_one (k := .sl k1) tok 40 (by kernel_rfl) rfl h0
  obtain ⟨a1, rfl, rfl, rfl, w1⟩ := open_int Try.underlying5 (hval 1 5 v1 rfl rfl) h1
  clear hA0 hval0
  refine (walk4 a1 (inR_of_wf w1) _ x0 W g0 u0).mono fun e W' ⟨he, bel⟩ => ?_
  subst he
  exact ⟨_, rfl, _, _, _, [], _, [], hW', trodAll_mk1 (shut_bool Try.underlying4 _), (trodAll_cons_mk (Below.trod laidOut4 (by kernel_rfl) (of_decide_eq_true (by kernel_rfl)) tr0 bel lt0) (trodAll_cons_mk (shut_int Try.underlying5 w1) trodAll_mk0)), rfl, bel.frame _, fun h => by cases h⟩

theorem heapInsertionOrder_over : Rows.heapInsertionOrderRow.holds Try.pinned (OpenSpec.ofChange Rows.heapInsertionOrderSpec) :=
  OpenClaim.holds_of_wide 4 Try.f4 rfl rfl rfl rfl rfl rfl rfl ⟨rfl, rfl, rfl, rfl, rfl⟩ rfl rfl rfl rfl rfl (by kernel_rfl) Try.func4 (by kernel_rfl)
    (of_decide_eq_true (by kernel_rfl)) (by unfold Func.isWrapper; first | (rw [if_pos (by decide +kernel)]; kernel_rfl) | (rw [if_neg (by decide +kernel)]; exact ⟨rfl, rfl⟩))
    (fun os started H enc _ => lifted4 os started H enc)
theorem heapInsertionOrder_proved : Rows.HeapInsertionOrderSaid := heapInsertionOrder_over
end Go.Proofs.Ytofigelofojjlaa
