import Derived.Test.YtplpefihhhcbbaaDoorQ8
namespace Go.Sym
set_option linter.unusedVariables false
theorem putAt_is {g : Gr} (hg : GOk g) (ts of : List Int) (m : Nat) (there : List Int) (fr : Nat) : ∀ j, j <= g.n - fr -> 1 <= j ->
  (∃ i, i < j /\ putAt g ts of m there fr j = putR g ts of m (there ++ [((fr + i : Nat) : Int)]) (fr + i)) /\ ∀ i, i < j -> (putAt g ts of m there fr j).1 <= (putR g ts of m (there ++ [((fr + i : Nat) : Int)]) (fr + i)).1 := by
 intro j
 induction j with
 | zero => intro _ h; omega
 | succ j ih =>
  intro hj _
  by_cases h0 : j = 0
  ·subst h0
   have e : putAt g ts of m there fr (0 + 1) = putR g ts of m (there ++ [((fr + 0 : Nat) : Int)]) (fr + 0) := put_neg (show (-1 : Int) < 0 by omega)
   refine ⟨⟨0, by omega, e⟩, fun i hi => ?_⟩
   obtain rfl : i = 0 := by omega
   rw [e]; exact Int.le_refl _
  ·obtain ⟨⟨i0, hi0, e0⟩, hall⟩ := ih (by omega) (by omega)
   have hq : 0 <= (putAt g ts of m there fr j).1 := by rw [e0]; exact putR_nn hg ts of m _ _ (by omega)
   by_cases h2 : (putR g ts of m (there ++ [((fr + j : Nat) : Int)]) (fr + j)).1 < (putAt g ts of m there fr j).1
   ·rw [put_lt h2]
    refine ⟨⟨j, by omega, rfl⟩, fun i hi => ?_⟩
    by_cases e : i = j
    ·subst e; exact Int.le_refl _
    ·have := hall i (by omega); omega
   ·rw [put_no (by omega) h2]
    refine ⟨⟨i0, by omega, e0⟩, fun i hi => ?_⟩
    by_cases e : i = j
    ·subst e; omega
    ·exact hall i (by omega)
theorem put_att {g : Gr} (hg : GOk g) (ts of : List Int) : ∀ (m : Nat) (there : List Int) (fr : Nat), fr < g.n ->
  (putR g ts of m there fr).1 = (worstR g ts (putR g ts of m there fr).2 of).1 /\ (putR g ts of m there fr).2.length = there.length + m
 | 0, there, fr, _ => ⟨rfl, rfl⟩
 | m + 1, there, fr, hfr => by
  obtain ⟨⟨i, hi, e⟩, _⟩ := putAt_is hg ts of m there fr (g.n - fr) (Nat.le_refl _) (by omega)
  have e : putR g ts of (m + 1) there fr = putR g ts of m (there ++ [((fr + i : Nat) : Int)]) (fr + i) := e
  rw [e]
  have h := put_att hg ts of m (there ++ [((fr + i : Nat) : Int)]) (fr + i) (by omega)
  exact ⟨h.1, by rw [h.2]; simp; omega⟩
theorem put_min {g : Gr} (hg : GOk g) (ts of : List Int) : ∀ (m : Nat) (there l : List Int) (fr : Nat), l.length = m -> l.Pairwise (· <= ·) -> (∀ p ∈ l, (fr : Int) <= p /\ p < g.n) ->
  fr < g.n -> (putR g ts of m there fr).1 <= (worstR g ts (there ++ l) of).1
 | 0, there, l, fr, hl, _, _, _ => by
  obtain rfl := List.length_eq_zero_iff.1 hl
  rw [List.append_nil]; exact Int.le_refl _
 | m + 1, there, [], fr, hl, _, _, _ => by simp at hl
 | m + 1, there, k :: l, fr, hl, hs, hr, hfr => by
  have hk := hr k (by simp)
  obtain ⟨_, hall⟩ := putAt_is hg ts of m there fr (g.n - fr) (Nat.le_refl _) (by omega)
  have h1 := hall (k.toNat - fr) (by omega)
  have e : ((fr + (k.toNat - fr) : Nat) : Int) = k := by omega
  have h2 := put_min hg ts of m (there ++ [k]) l (fr + (k.toNat - fr)) (by simpa using hl) (List.pairwise_cons.1 hs).2 (fun p hp => by
   have := (List.pairwise_cons.1 hs).1 p hp
   have := hr p (List.mem_cons_of_mem _ hp)
   omega) (by omega)
  rw [e] at h1
  rw [List.append_assoc] at h2
  exact Int.le_trans h1 h2
theorem worst_more {g : Gr} (hg : GOk g) (ts of : List Int) {a b : List Int} (h : ∀ v, v < g.n -> isSrc a v = true -> isSrc b v = true) : (worstR g ts b of).1 <= (worstR g ts a of).1 := by
 unfold worstR
 exact worst_mono (fun v hv => (nodesL_mem hv).1) fun v hv => dist_mono hg ts true h (by have := nodesL_mem hv; omega)
theorem bound_min {g : Gr} (hg : GOk g) (ts of : List Int) (l : List Int) : (putR g ts of l.length [] 0).1 <= (worstR g ts l of).1 := by
 have hn := hg.n1
 let f : Int -> Int := fun p => if 0 <= p /\ p < g.n then p else 0
 let s := (l.map f).mergeSort (fun a b => decide (a <= b))
 have hp : s.Perm (l.map f) := List.mergeSort_perm _ _
 have hf : ∀ p, 0 <= f p /\ f p < g.n := by
  intro p
  show 0 <= (if 0 <= p /\ p < g.n then p else 0) /\ (if 0 <= p /\ p < g.n then p else 0) < (g.n : Int)
  split <;> omega
 have hs : s.Pairwise (· <= ·) := by
  have := List.pairwise_mergeSort (le := fun (a b : Int) => decide (a <= b)) (fun a b c h1 h2 => by simp only [decide_eq_true_eq] at *; omega) (fun a b => by simp only [Bool.or_eq_true, decide_eq_true_eq]; omega) (l.map f)
  exact this.imp fun h => by simpa using h
 have h1 := put_min hg ts of l.length [] s 0 (by rw [hp.length_eq, List.length_map]) hs (fun p hq => by
  obtain ⟨x, _, rfl⟩ := List.mem_map.1 (hp.mem_iff.1 hq)
  have := hf x; omega) (by omega)
 refine Int.le_trans h1 (worst_more hg ts of fun v hv h => ?_)
 rw [List.nil_append]
 have h := isSrc_iff.1 h
 refine isSrc_iff.2 (hp.mem_iff.2 (List.mem_map.2 ⟨_, h, ?_⟩))
 show (if 0 <= ((v : Nat) : Int) /\ ((v : Nat) : Int) < g.n then ((v : Nat) : Int) else 0) = _
 rw [if_pos (by omega)]
end Go.Sym