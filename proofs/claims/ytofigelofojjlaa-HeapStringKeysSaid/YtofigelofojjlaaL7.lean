/- law03: HeapMatchesModel: whatever the input, the law returns true and the input reads as it did. No condition beside the given statement. -/
import Derived.Test.YtofigelofojjlaaW3
import Derived.Test.YtofigelofojjlaaXD
import Derived.ProofKit
namespace Go.Proofs.Ytofigelofojjlaa
open Go.Sym
open Go.ChangeShapes Go.WideShapes Go.ChangeAt Go.RowKit
set_option linter.unusedVariables false
def decAct (g : Nat → D) : Go.Sym.Act := ⟨(g 0).toI, (g 1).toI, (g 2).toI⟩
theorem decAct_eq (g : Nat → D) : rowEq kA g (encAct (decAct g)) 0 := by simp only [rowEq, Kd.eqv, kA]; exact ⟨rfl, rfl, rfl, trivial⟩

theorem modelPre {d : D} (u : WfD (.sl kA) d) : ∀ k, k < (decL decAct d.toN d.toF).length → 0 ≤ ((decL decAct d.toN d.toF).getD k default).kind := by
  intro k hk
  rw [decL_length] at hk
  have h := u.2 k hk
  simp only [kA, WfR, WfD, inR] at h
  have e : (decL decAct d.toN d.toF).getD k default = decAct (d.toF k) := by simp [decL, List.getD_eq_getElem?_getD, hk]
  rw [e]
  exact h.1.1
theorem own7 : ownKnob Try.prog.godebug = none := by kernel_rfl
theorem laidOut7 : laidOutB Try.prog = true := by kernel_rfl
theorem walk7 (v0 : Value) (d0 : D) (W : World) (h0 : DenD (fun b => W.heap[b]?) (.sl kA) d0 v0) (u0 : WfD (.sl kA) d0) :
    Calls Try.prog 7 #[v0] W fun e W' => e = .returned (.bool true) ∧ Below W.heap.size W W' := by
  obtain ⟨q0, hq0⟩ := slice_place (w := W) (fun _ _ h => h) h0
  obtain ⟨qa0, qb0⟩ := hq0 (fun l => if l = 100000 then q0 else none) 100000 (by simp)
  have hl0 := decL_length decAct d0.toN d0.toF
  refine law_run (vals := [v0]) model_good.1 (x := (decL decAct d0.toN d0.toF)) (modelPre u0) rfl (ρ := ⟨(fun l => if l = 100000 then q0 else none), fun b => W.heap[b]?⟩) ?_ (HSat.read ?_ ?_) ?_
  · exact DenL_cons.2 ⟨(by rw [hl0]; exact qa0), by simp [DenL]⟩
  · intro l hg
    by_cases e0 : l = 100000
    · subst e0; cases hg
    simp [e0]
  · intro l b hg
    have hm := hget_mem hg
    simp only [modelC, List.mem_cons, List.not_mem_nil, or_false, Prod.mk.injEq] at hm
    rcases hm with ⟨rfl, rfl⟩
    · refine ⟨?_, rfl, rfl⟩
      rw [hl0]
      exact qb0.rows_eqv (rowsEq_dec decAct_eq _ _)
  · intro l b hg
    have hm := hget_mem hg
    simp only [modelC, List.mem_cons, List.not_mem_nil, or_false, Prod.mk.injEq] at hm
    rcases hm with ⟨rfl, rfl⟩
    · rfl

set_option maxRecDepth 100000 in
theorem lifted7 (os : Os) (started : os.Started) (H : Type) (enc : TypeId × Value → H) :
    ReturnsInHanded {} Try.checked os 7 .any (Rows.heapMatchesModelSpec.pre6 enc Try.prog Try.f7 Rows.heapMatchesModelRow.domain false) (Rows.heapMatchesModelSpec.post enc Try.prog Try.f7 false true false false) := by
  refine returnsInHanded_of_change (C := Try.checked) own7 started (by kernel_rfl) Try.func7
    (ChangeSpec.witness6 (enc := enc) (C := Try.checked) false ⟨#[], #[.slice none 0 0], []⟩ 8 (by kernel_rfl) (by kernel_rfl) (by kernel_rfl) (by kernel_rfl)) ?_
  intro W base args ds gs before hval0 hW hcnd _
  have hval : ∀ (j : Nat) t v, Try.f7.params[j]? = some t → args[j]? = some v → Value.okWide Try.prog W .any base t v := hval0
  have hW' := hW
  obtain ⟨p, q, hA0, hV, rfl, hfz, hnd⟩ := hW
  have hA : DataW.TrodAll enc Try.prog W 0 (fun _ => true) true Try.f7.params.toList args.toList ds p := hA0
  rw [Try.params7] at hA hval
  obtain ⟨v0, vs0, d0, ds0, p0, q0, hargs, rfl, rfl, h0, r0⟩ := trodAll_cons hA
  obtain ⟨rfl, rfl, rfl⟩ := trodAll_nil r0
  obtain rfl : args = #[v0] := by cases args; simp_all
  obtain ⟨rfl, rfl⟩ := trodVars_none hV
  obtain ⟨b0, len0, cap0, rfl⟩ := okWide_slice Try.underlying22 (hval 0 22 v0 rfl rfl)
  have k0 := h0
  have lt0 : ∀ x ∈ p0, x.block < W.heap.size := by obtain ⟨m, hm⟩ := k0; exact DataW.trod_lt m _ _ _ hm
  obtain ⟨x0, g0, u0⟩ := lift_one (k := .sl kA) tok 40 (by kernel_rfl) rfl h0
  clear hA0 hval0
  refine (walk7 _ x0 W g0 u0).mono fun e W' ⟨he, bel⟩ => ?_
  subst he
  exact ⟨_, rfl, _, _, _, [], _, [], hW', trodAll_mk1 (shut_bool Try.underlying4 _), (trodAll_cons_mk (Below.trod laidOut7 (by kernel_rfl) (of_decide_eq_true (by kernel_rfl)) k0 bel lt0) trodAll_mk0), rfl, bel.frame _, fun h => by cases h⟩

theorem heapMatchesModel_over : Rows.heapMatchesModelRow.holds Try.pinned (OpenSpec.ofChange Rows.heapMatchesModelSpec) :=
  OpenClaim.holds_of_wide 7 Try.f7 rfl rfl rfl rfl rfl rfl rfl ⟨rfl, rfl, rfl, rfl, rfl⟩ rfl rfl rfl rfl rfl (by kernel_rfl) Try.func7 (by kernel_rfl)
    (of_decide_eq_true (by kernel_rfl)) (by unfold Func.isWrapper; first | (rw [if_pos (by decide +kernel)]; kernel_rfl) | (rw [if_neg (by decide +kernel)]; exact ⟨rfl, rfl⟩))
    (fun os started H enc _ => lifted7 os started H enc)
theorem heapMatchesModel_proved : Rows.HeapMatchesModelSaid := heapMatchesModel_over
end Go.Proofs.Ytofigelofojjlaa
