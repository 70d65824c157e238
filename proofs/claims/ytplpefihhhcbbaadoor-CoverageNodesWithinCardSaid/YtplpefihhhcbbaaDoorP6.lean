import Derived.Test.YtplpefihhhcbbaaDoorR5
import Derived.Test.YtplpefihhhcbbaaDoorP7
namespace Go.Sym
set_option linter.unusedVariables false
theorem worst_set {D : List Int} : ∀ (l : List Int) (s : Int × Int), (∀ v ∈ l, 0 <= v) -> 0 <= s.2 -> 0 <= (l.foldl (worstS D) s).2 /\ s.1 <= (l.foldl (worstS D) s).1 /\ (∀ v ∈ l, D.getD v.toNat default <= (l.foldl (worstS D) s).1) /\
  ((l.foldl (worstS D) s).1 = s.1 ∨ ∃ v ∈ l, (l.foldl (worstS D) s).1 = D.getD v.toNat default)
 | [], s, _, h => ⟨h, Int.le_refl _, fun v hv => (by cases hv), .inl rfl⟩
 | x :: l, s, hl, h => by
  rw [List.foldl_cons]
  by_cases hc : s.1 < D.getD x.toNat default
  ·have e : worstS D s x = (D.getD x.toNat default, x) := if_pos (.inr hc)
   rw [e]
   obtain ⟨h1, h2, h3, h4⟩ := worst_set l (D.getD x.toNat default, x) (fun v hv => hl v (List.mem_cons_of_mem _ hv)) (hl x (by simp))
   refine ⟨h1, Int.le_trans (Int.le_of_lt hc) h2, fun v hv => ?_, ?_⟩
   ·rcases List.mem_cons.1 hv with q | q
    ·subst q; exact h2
    ·exact h3 v q
   ·rcases h4 with q | ⟨v, hv, q⟩
    ·exact .inr ⟨x, by simp, q⟩
    ·exact .inr ⟨v, List.mem_cons_of_mem _ hv, q⟩
  ·have e : worstS D s x = s := if_neg (fun q => q.elim (fun q => by omega) hc)
   rw [e]
   obtain ⟨h1, h2, h3, h4⟩ := worst_set l s (fun v hv => hl v (List.mem_cons_of_mem _ hv)) h
   refine ⟨h1, h2, fun v hv => ?_, ?_⟩
   ·rcases List.mem_cons.1 hv with q | q
    ·subst q; omega
    ·exact h3 v q
   ·rcases h4 with q | ⟨v, hv, q⟩
    ·exact .inl q
    ·exact .inr ⟨v, List.mem_cons_of_mem _ hv, q⟩
theorem worst_spec {D l : List Int} (hl : ∀ v ∈ l, 0 <= v) : (l = [] /\ worstF D l = (0, -1)) ∨ (l ≠ [] /\ 0 <= (worstF D l).2 /\ (∀ v ∈ l, D.getD v.toNat default <= (worstF D l).1) /\ ∃ v ∈ l, (worstF D l).1 = D.getD v.toNat default) := by
 cases l with
 | nil => exact .inl ⟨rfl, rfl⟩
 | cons x l =>
  right
  refine ⟨by simp, ?_⟩
  unfold worstF
  rw [List.foldl_cons]
  have e : worstS D (0, -1) x = (D.getD x.toNat default, x) := if_pos (.inl (by show (-1 : Int) < 0; omega))
  rw [e]
  obtain ⟨h1, h2, h3, h4⟩ := worst_set l (D.getD x.toNat default, x) (fun v hv => hl v (List.mem_cons_of_mem _ hv)) (hl x (by simp))
  refine ⟨h1, fun v hv => ?_, ?_⟩
  ·rcases List.mem_cons.1 hv with q | q
   ·subst q; exact h2
   ·exact h3 v q
  ·rcases h4 with q | ⟨v, hv, q⟩
   ·exact ⟨x, by simp, q⟩
   ·exact ⟨v, List.mem_cons_of_mem _ hv, q⟩
theorem nodesL_mem {n : Nat} {of : List Int} {v : Int} (h : v ∈ nodesL n of) : 0 <= v /\ v < n := by
 unfold nodesL at h
 rw [List.mem_filter] at h
 exact ⟨(elemsZ_mem.1 h.1).1, of_decide_eq_true h.2⟩
theorem worstR_rng {g : Gr} (hg : GOk g) (ts src of : List Int) : 0 <= (worstR g ts src of).1 /\ (worstR g ts src of).1 <= 4611686018427387904 := by
 unfold worstR
 rcases worst_spec (D := distG g ts src true) (l := nodesL g.n of) (fun v hv => (nodesL_mem hv).1) with ⟨_, h⟩ | ⟨_, _, _, v, hv, h⟩
 ·rw [h]; exact ⟨by decide, by decide⟩
 ·rw [h]
  have := nodesL_mem hv
  exact dist_rng hg ts src true (by omega)
structure VX where
 g : Gr
 ts : List Int
 us : List Un
 of : List Int
 t : Int
def VX.u (x : VX) : UX := ⟨x.g, x.ts, x.us, x.of⟩
end Go.Sym