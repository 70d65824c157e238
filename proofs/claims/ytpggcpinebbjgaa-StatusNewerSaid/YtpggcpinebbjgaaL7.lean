/- law30: StatusNewer: whatever the input, the law returns true and the input reads as it did. No condition beside the given statement. -/
import Derived.Test.YtpggcpinebbjgaaW12
import Derived.Test.YtpggcpinebbjgaaXD
import Derived.ProofKit
namespace Go.Proofs.Ytpggcpinebbjgaa
open Go.Sym
open Go.ChangeShapes Go.WideShapes Go.ChangeAt Go.RowKit
set_option linter.unusedVariables false
def decCame (g : Nat → D) : Came := ⟨⟨(g 0).toI, (g 1).toI, (g 2).toI, (g 3).toI, (g 4).toI⟩, (g 5).toI⟩
theorem decCame_eq (g : Nat → D) : rowEq k6 g (encCame (decCame g)) 0 := by simp only [rowEq, Kd.eqv, k6]; exact ⟨rfl, rfl, rfl, rfl, rfl, rfl, trivial⟩
def decInt (g : Nat → D) : Int := (g 0).toI
theorem decInt_eq (g : Nat → D) : rowEq k1 g (encI (decInt g)) 0 := by simp only [rowEq, Kd.eqv, k1]; exact ⟨rfl, trivial⟩
theorem own7 : ownKnob Try.prog.godebug = none := by kernel_rfl
theorem laidOut7 : laidOutB Try.prog = true := by kernel_rfl
theorem walk7 (v0 : Value) (d0 : D) (v1 : Value) (d1 : D) (W : World) (h0 : DenD (fun b => W.heap[b]?) (.sl k6) d0 v0) (u0 : WfD (.sl k6) d0) (h1 : DenD (fun b => W.heap[b]?) (.sl k1) d1 v1) (u1 : WfD (.sl k1) d1) :
    Calls Try.prog 7 #[v0, v1] W fun e W' => e = .returned (.bool true) ∧ Below W.heap.size W W' := by
  obtain ⟨q0, hq0⟩ := slice_place (w := W) (fun _ _ h => h) h0
  obtain ⟨q1, hq1⟩ := slice_place (w := W) (fun _ _ h => h) h1
  obtain ⟨qa0, qb0⟩ := hq0 (fun l => if l = 100000 then q0 else if l = 100001 then q1 else none) 100000 (by simp)
  have hl0 := decL_length decCame d0.toN d0.toF
  obtain ⟨qa1, qb1⟩ := hq1 (fun l => if l = 100000 then q0 else if l = 100001 then q1 else none) 100001 (by simp)
  have hl1 := decL_length decInt d1.toN d1.toF
  refine law_run (vals := [v0, v1]) newLaw_good.1 (x := ⟨(decL decCame d0.toN d0.toF), (decL decInt d1.toN d1.toF)⟩) trivial rfl (ρ := ⟨(fun l => if l = 100000 then q0 else if l = 100001 then q1 else none), fun b => W.heap[b]?⟩) ?_ (HSat.read ?_ ?_) ?_
  · exact DenL_cons.2 ⟨(by rw [hl0]; exact qa0), DenL_cons.2 ⟨(by rw [hl1]; exact qa1), by simp [DenL]⟩⟩
  · intro l hg
    by_cases e0 : l = 100000
    · subst e0; cases hg
    by_cases e1 : l = 100001
    · subst e1; cases hg
    simp [e0, e1]
  · intro l b hg
    have hm := hget_mem hg
    simp only [newLawC, List.mem_cons, List.not_mem_nil, or_false, Prod.mk.injEq] at hm
    rcases hm with ⟨rfl, rfl⟩ | ⟨rfl, rfl⟩
    · refine ⟨?_, rfl, rfl⟩
      rw [hl0]
      exact qb0.rows_eqv (rowsEq_dec decCame_eq _ _)
    · refine ⟨?_, rfl, rfl⟩
      rw [hl1]
      exact qb1.rows_eqv (rowsEq_dec decInt_eq _ _)
  · intro l b hg
    have hm := hget_mem hg
    simp only [newLawC, List.mem_cons, List.not_mem_nil, or_false, Prod.mk.injEq] at hm
    rcases hm with ⟨rfl, rfl⟩ | ⟨rfl, rfl⟩
    · rfl
    · rfl

set_option maxRecDepth 100000 in
theorem lifted7 (os : Os) (started : os.Started) (H : Type) (enc : TypeId × Value → H) :
    ReturnsInHanded {} Try.checked os 7 .any (Rows.statusNewerSpec.pre6 enc Try.prog Try.f7 Rows.statusNewerRow.domain false) (Rows.statusNewerSpec.post enc Try.prog Try.f7 false true false false) := by
  refine returnsInHanded_of_change (C := Try.checked) own7 started (by kernel_rfl) Try.func7
    (ChangeSpec.witness6 (enc := enc) (C := Try.checked) false ⟨#[], #[.slice none 0 0, .slice none 0 0], []⟩ 8 (by kernel_rfl) (by kernel_rfl) (by kernel_rfl) (by kernel_rfl)) ?_
  intro W base args ds gs before hval0 hW hcnd _
  have hval : ∀ (j : Nat) t v, Try.f7.params[j]? = some t → args[j]? = some v → Value.okWide Try.prog W .any base t v := hval0
  have hW' := hW
  obtain ⟨p, q, hA0, hV, rfl, hfz, hnd⟩ := hW
  have hA : DataW.TrodAll enc Try.prog W 0 (fun _ => true) true Try.f7.params.toList args.toList ds p := hA0
  rw [Try.params7] at hA hval
  obtain ⟨v0, vs0, d0, ds0, p0, q0, hargs, rfl, rfl, h0, r0⟩ := trodAll_cons hA
  obtain ⟨v1, vs1, d1, ds1, p1, q1, rfl, rfl, rfl, h1, r1⟩ := trodAll_cons r0
  obtain ⟨rfl, rfl, rfl⟩ := trodAll_nil r1
  obtain rfl : args = #[v0, v1] := by cases args; simp_all
  obtain ⟨rfl, rfl⟩ := trodVars_none hV
  obtain ⟨b0, len0, cap0, rfl⟩ := okWide_slice Try.underlying22 (hval 0 22 v0 rfl rfl)
  have tr0 := h0
  have lt0 : ∀ x ∈ p0, x.block < W.heap.size := by obtain ⟨m, hm⟩ := tr0; exact DataW.trod_lt m _ _ _ hm
  obtain ⟨x0, g0, u0⟩ := lift_one (k := .sl k6) tok 40 (by kernel_rfl) rfl h0
  obtain ⟨b1, len1, cap1, rfl⟩ := okWide_slice Try.underlying53 (hval 1 53 v1 rfl rfl)
  have tr1 := h1
  have lt1 : ∀ x ∈ p1, x.block < W.heap.size := by obtain ⟨m, hm⟩ := tr1; exact DataW.trod_lt m _ _ _ hm
  obtain ⟨x1, g1, u1⟩ := lift_one (k := .sl k1) tok 40 (by kernel_rfl) rfl h1
  clear hA0 hval0
  refine (walk7 _ x0 _ x1 W g0 u0 g1 u1).mono fun e W' ⟨he, bel⟩ => ?_
  subst he
  exact ⟨_, rfl, _, _, _, [], _, [], hW', trodAll_mk1 (shut_bool Try.underlying4 _), (trodAll_cons_mk (Below.trod laidOut7 (by kernel_rfl) (of_decide_eq_true (by kernel_rfl)) tr0 bel lt0) (trodAll_cons_mk (Below.trod laidOut7 (by kernel_rfl) (of_decide_eq_true (by kernel_rfl)) tr1 bel lt1) trodAll_mk0)), rfl, bel.frame _, fun h => by cases h⟩

theorem statusNewer_over : Rows.statusNewerRow.holds Try.pinned (OpenSpec.ofChange Rows.statusNewerSpec) :=
  OpenClaim.holds_of_wide 7 Try.f7 rfl rfl rfl rfl rfl rfl rfl ⟨rfl, rfl, rfl, rfl, rfl⟩ rfl rfl rfl rfl rfl (by kernel_rfl) Try.func7 (by kernel_rfl)
    (of_decide_eq_true (by kernel_rfl)) (by unfold Func.isWrapper; first | (rw [if_pos (by decide +kernel)]; kernel_rfl) | (rw [if_neg (by decide +kernel)]; exact ⟨rfl, rfl⟩))
    (fun os started H enc _ => lifted7 os started H enc)
theorem statusNewer_proved : Rows.StatusNewerSaid := statusNewer_over
end Go.Proofs.Ytpggcpinebbjgaa
