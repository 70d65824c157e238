/- law30: StatusLast: whatever the input, the law returns true and the input reads as it did. No condition beside the given statement. -/
import Derived.Test.YtpggcpinebbjgaaW10
import Derived.Test.YtpggcpinebbjgaaXE25
import Derived.ProofKit
namespace Go.Proofs.Ytpggcpinebbjgaa
open Go.Sym
open Go.ChangeShapes Go.WideShapes Go.ChangeAt Go.RowKit
set_option linter.unusedVariables false
def decCame (g : Nat → D) : Came := ⟨⟨(g 0).toI, (g 1).toI, (g 2).toI, (g 3).toI, (g 4).toI⟩, (g 5).toI⟩
theorem decCame_eq (g : Nat → D) : rowEq k6 g (encCame (decCame g)) 0 := by simp only [rowEq, Kd.eqv, k6]; exact ⟨rfl, rfl, rfl, rfl, rfl, rfl, trivial⟩
theorem own4 : ownKnob Try.prog.godebug = none := by kernel_rfl
theorem laidOut4 : laidOutB Try.prog = true := by kernel_rfl
theorem walk4 (a1 a2 : Int) (r1 : inR .u8 a1) (r2 : inR .i64 a2) (v0 : Value) (d0 : D) (W : World) (h0 : DenD (fun b => W.heap[b]?) (.sl k6) d0 v0) :
    Calls Try.prog 4 #[v0, .int .u8 a1, .int .i64 a2] W fun e W' => e = .returned (.bool true) ∧ Below W.heap.size W W' := by
  obtain ⟨q0, hq0⟩ := slice_place (w := W) (fun _ _ h => h) h0
  obtain ⟨qa0, qb0⟩ := hq0 (fun l => if l = 100000 then q0 else none) 100000 (by simp)
  have hl0 := decL_length decCame d0.toN d0.toF
  refine law_run (vals := [v0, .int .u8 a1, .int .i64 a2]) lastLaw_good.1 (x := ⟨(decL decCame d0.toN d0.toF), a1, a2⟩) r1 rfl (ρ := ⟨(fun l => if l = 100000 then q0 else none), fun b => W.heap[b]?⟩) ?_ (HSat.read ?_ ?_) ?_
  · exact DenL_cons.2 ⟨(by rw [hl0]; exact qa0), DenL_cons.2 ⟨by simp only [Den], DenL_cons.2 ⟨by simp only [Den], by simp [DenL]⟩⟩⟩
  · intro l hg
    by_cases e0 : l = 100000
    · subst e0; cases hg
    simp [e0]
  · intro l b hg
    have hm := hget_mem hg
    simp only [lastLawC, List.mem_cons, List.not_mem_nil, or_false, Prod.mk.injEq] at hm
    rcases hm with ⟨rfl, rfl⟩
    · refine ⟨?_, rfl, rfl⟩
      rw [hl0]
      exact qb0.rows_eqv (rowsEq_dec decCame_eq _ _)
  · intro l b hg
    have hm := hget_mem hg
    simp only [lastLawC, List.mem_cons, List.not_mem_nil, or_false, Prod.mk.injEq] at hm
    rcases hm with ⟨rfl, rfl⟩
    · rfl

set_option maxRecDepth 100000 in
theorem lifted4 (os : Os) (started : os.Started) (H : Type) (enc : TypeId × Value → H) :
    ReturnsInHanded {} Try.checked os 4 .any (Rows.statusLastSpec.pre6 enc Try.prog Try.f4 Rows.statusLastRow.domain false) (Rows.statusLastSpec.post enc Try.prog Try.f4 false true false false) := by
  refine returnsInHanded_of_change (C := Try.checked) own4 started (by kernel_rfl) Try.func4
    (ChangeSpec.witness6 (enc := enc) (C := Try.checked) false ⟨#[], #[.slice none 0 0, .int .u8 0, .int .i64 0], []⟩ 8 (by kernel_rfl) (by kernel_rfl) (by kernel_rfl) (by kernel_rfl)) ?_
  intro W base args ds gs before hval0 hW hcnd _
  have hval : ∀ (j : Nat) t v, Try.f4.params[j]? = some t → args[j]? = some v → Value.okWide Try.prog W .any base t v := hval0
  have hW' := hW
  obtain ⟨p, q, hA0, hV, rfl, hfz, hnd⟩ := hW
  have hA : DataW.TrodAll enc Try.prog W 0 (fun _ => true) true Try.f4.params.toList args.toList ds p := hA0
  rw [Try.params4] at hA hval
  obtain ⟨v0, vs0, d0, ds0, p0, q0, hargs, rfl, rfl, h0, r0⟩ := trodAll_cons hA
  obtain ⟨v1, vs1, d1, ds1, p1, q1, rfl, rfl, rfl, h1, r1⟩ := trodAll_cons r0
  obtain ⟨v2, vs2, d2, ds2, p2, q2, rfl, rfl, rfl, h2, r2⟩ := trodAll_cons r1
  obtain ⟨rfl, rfl, rfl⟩ := trodAll_nil r2
  obtain rfl : args = #[v0, v1, v2] := by cases args; simp_all
  obtain ⟨rfl, rfl⟩ := trodVars_none hV
  obtain ⟨b0, len0, cap0, rfl⟩ := okWide_slice Try.underlying22 (hval 0 22 v0 rfl rfl)
  have k0 := h0
  have lt0 : ∀ x ∈ p0, x.block < W.heap.size := by obtain ⟨m, hm⟩ := k0; exact DataW.trod_lt m _ _ _ hm
  obtain ⟨x0, g0, _⟩ := lift_one (k := .sl k6) tok 40 (by kernel_rfl) rfl h0
  obtain ⟨a1, rfl, rfl, rfl, w1⟩ := open_int Try.underlying5 (hval 1 5 v1 rfl rfl) h1
  obtain ⟨a2, rfl, rfl, rfl, w2⟩ := open_int Try.underlying2 (hval 2 2 v2 rfl rfl) h2
  clear hA0 hval0
  refine (walk4 a1 a2 (inR_of_wf w1) (inR_of_wf w2) _ x0 W g0).mono fun e W' ⟨he, bel⟩ => ?_
  subst he
  exact ⟨_, rfl, _, _, _, [], _, [], hW', trodAll_mk1 (shut_bool Try.underlying4 _), (trodAll_cons_mk (Below.trod laidOut4 (by kernel_rfl) (of_decide_eq_true (by kernel_rfl)) k0 bel lt0) (trodAll_cons_mk (shut_int Try.underlying5 w1) (trodAll_cons_mk (shut_int Try.underlying2 w2) trodAll_mk0))), rfl, bel.frame _, fun h => by cases h⟩

theorem statusLast_over : Rows.statusLastRow.holds Try.pinned (OpenSpec.ofChange Rows.statusLastSpec) :=
  OpenClaim.holds_of_wide 4 Try.f4 rfl rfl rfl rfl rfl rfl rfl ⟨rfl, rfl, rfl, rfl, rfl⟩ rfl rfl rfl rfl rfl (by kernel_rfl) Try.func4 (by kernel_rfl)
    (of_decide_eq_true (by kernel_rfl)) (by unfold Func.isWrapper; first | (rw [if_pos (by decide +kernel)]; kernel_rfl) | (rw [if_neg (by decide +kernel)]; exact ⟨rfl, rfl⟩))
    (fun os started H enc _ => lifted4 os started H enc)
theorem statusLast_proved : Rows.StatusLastSaid := statusLast_over
end Go.Proofs.Ytpggcpinebbjgaa
