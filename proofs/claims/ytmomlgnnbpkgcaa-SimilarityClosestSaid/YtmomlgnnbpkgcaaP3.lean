import Derived.Test.YtmomlgnnbpkgcaaS1
namespace Go.Sym
set_option linter.unusedVariables false
theorem int_lt_or_ge (a b : Int) : a < b ∨ b <= a := by omega
structure WNet where
 n : Nat
 m : Nat
 s : Nat -> Nat
 t : Nat -> Nat
 w : Nat -> Int
structure WNet.Ok (N : WNet) : Prop where
 s : ∀ i, i < N.m -> N.s i < N.n
 t : ∀ i, i < N.m -> N.t i < N.n
 w : ∀ i, i < N.m -> N.w i < INF -> 1 <= N.w i
def at0 (d : List Int) (v : Nat) : Int := d.getD v default
theorem at0_set {d : List Int} {v u : Nat} {x : Int} : at0 (d.set v x) u = if v = u /\ u < d.length then x else at0 d u := by
 unfold at0
 simp only [List.getD_eq_getElem?_getD, List.getElem?_set]
 by_cases h : v = u
 ·subst h
  by_cases h2 : v < d.length
  ·simp [h2]
  ·simp [h2]
 ·simp [h]
structure Sol (N : WNet) (S : Nat -> Prop) (d : List Int) : Prop where
 len : d.length = N.n
 nn : ∀ v, v < N.n -> 0 <= at0 d v
 le : ∀ v, v < N.n -> at0 d v <= INF
 src : ∀ v, v < N.n -> S v -> at0 d v = 0
 clo : ∀ i, i < N.m -> N.w i < INF -> at0 d (N.s i) < INF -> at0 d (N.t i) <= at0 d (N.s i) + N.w i
 tig : ∀ v, v < N.n -> at0 d v < INF -> (S v /\ at0 d v = 0) ∨ ∃ i, i < N.m /\ N.w i < INF /\ N.t i = v /\ at0 d (N.s i) < INF /\ at0 d v = at0 d (N.s i) + N.w i
theorem Sol.least {N : WNet} {S : Nat -> Prop} {d : List Int} (hN : N.Ok) (H : Sol N S d) {e : List Int} (hle : ∀ v, v < N.n -> at0 e v <= INF) (hs : ∀ v, v < N.n -> S v -> at0 e v <= 0)
  (hc : ∀ i, i < N.m -> N.w i < INF -> at0 e (N.s i) < INF -> at0 e (N.t i) <= at0 e (N.s i) + N.w i) : ∀ v, v < N.n -> at0 e v <= at0 d v := by
 have key : ∀ (k : Nat) v, v < N.n -> (at0 d v).toNat < k -> at0 e v <= at0 d v := by
  intro k
  induction k with
  | zero => intro v _ h; omega
  | succ k ih =>
   intro v hv hk
   by_cases hi : at0 d v < INF
   ·rcases H.tig v hv hi with ⟨h1, h2⟩ | ⟨i, h1, h2, h3, h4, h5⟩
    ·have := hs v hv h1; omega
    ·have hu := hN.s i h1
     have hw := hN.w i h1 h2
     have := H.nn _ hu
     have h6 := ih _ hu (by omega)
     have h7 := hc i h1 h2 (by omega)
     rw [h3] at h7; omega
   ·have := hle v hv; have := H.le v hv; omega
 exact fun v hv => key _ v hv (Nat.lt_succ_self _)
theorem list_ext0 {a b : List Int} (hl : a.length = b.length) (h : ∀ v, v < a.length -> at0 a v = at0 b v) : a = b := by
 apply List.ext_getElem hl
 intro i h1 h2
 have := h i h1
 unfold at0 at this
 simpa [List.getD_eq_getElem?_getD, h1, h2] using this
theorem Sol.uniq {N : WNet} {S : Nat -> Prop} {d e : List Int} (hN : N.Ok) (H : Sol N S d) (K : Sol N S e) : d = e := by
 refine list_ext0 (by rw [H.len, K.len]) fun v hv => ?_
 rw [H.len] at hv
 have h1 := H.least hN K.le (fun v hv hs => by rw [K.src v hv hs]; exact Int.le_refl _) K.clo v hv
 have h2 := K.least hN H.le (fun v hv hs => by rw [H.src v hv hs]; exact Int.le_refl _) H.clo v hv
 omega
def relaxE (N : WNet) (d : List Int) (i : Nat) : List Int := if N.w i < INF /\ at0 d (N.s i) < INF /\ at0 d (N.s i) + N.w i < at0 d (N.t i) then d.set (N.t i) (at0 d (N.s i) + N.w i) else d
def roundAt (N : WNet) (d : List Int) (k : Nat) : List Int := (List.range k).foldl (relaxE N) d
def roundF (N : WNet) (d : List Int) : List Int := roundAt N d N.m
def rounds (N : WNet) (d : List Int) (k : Nat) : List Int := (List.range k).foldl (fun d _ => roundF N d) d
theorem roundAt_succ (N : WNet) (d : List Int) (k : Nat) : roundAt N d (k + 1) = relaxE N (roundAt N d k) k := by unfold roundAt; rw [List.range_succ, List.foldl_append]; rfl
theorem rounds_succ (N : WNet) (d : List Int) (k : Nat) : rounds N d (k + 1) = roundF N (rounds N d k) := by unfold rounds; rw [List.range_succ, List.foldl_append]; rfl
structure Rlx (N : WNet) (S : Nat -> Prop) (d : List Int) : Prop where
 len : d.length = N.n
 nn : ∀ v, v < N.n -> 0 <= at0 d v
 le : ∀ v, v < N.n -> at0 d v <= INF
 src : ∀ v, v < N.n -> S v -> at0 d v = 0
 tig : ∀ v, v < N.n -> at0 d v < INF -> (S v /\ at0 d v = 0) ∨ ∃ i, i < N.m /\ N.w i < INF /\ N.t i = v /\ at0 d (N.s i) < INF /\ at0 d (N.s i) + N.w i <= at0 d v
theorem Rlx.put {N : WNet} {S : Nat -> Prop} {d : List Int} (hN : N.Ok) (H : Rlx N S d) {i : Nat} (hi : i < N.m) (hw : N.w i < INF) {x : Int} (hs : at0 d (N.s i) < INF) (hx : at0 d (N.s i) + N.w i <= x) (hlt : x < at0 d (N.t i)) : Rlx N S (d.set (N.t i) x) := by
 have hu := hN.s i hi
 have ht := hN.t i hi
 have hw1 := hN.w i hi hw
 have e : ∀ v, v < N.n -> at0 (d.set (N.t i) x) v = if N.t i = v then x else at0 d v := by
  intro v hv
  rw [at0_set, H.len]
  by_cases h : N.t i = v
  ·rw [if_pos ⟨h, hv⟩, if_pos h]
  ·rw [if_neg (fun q => h q.1), if_neg h]
 have mono : ∀ v, v < N.n -> at0 (d.set (N.t i) x) v <= at0 d v := by
  intro v hv
  rw [e v hv]; split
  ·rename_i h; subst h; omega
  ·exact Int.le_refl _
 have hx0 : 0 <= x := by have := H.nn _ hu; omega
 refine ⟨by rw [List.length_set]; exact H.len, fun v hv => ?_, fun v hv => Int.le_trans (mono v hv) (H.le v hv), fun v hv h => ?_, fun v hv h => ?_⟩
 ·rw [e v hv]; split
  ·exact hx0
  ·exact H.nn v hv
 ·have h0 := H.src v hv h
  rw [e v hv, if_neg]
  ·exact h0
  ·intro q; subst q; omega
 ·rw [e v hv] at h ⊢
  split at h
  ·rename_i q
   subst q
   right
   refine ⟨i, hi, hw, rfl, ?_, ?_⟩
   ·have := mono _ hu; omega
   ·rw [if_pos rfl]; have := mono _ hu; omega
  ·rename_i q
   rw [if_neg q]
   rcases H.tig v hv h with h | ⟨j, h1, h2, h3, h4, h5⟩
   ·exact .inl h
   ·have := mono _ (hN.s j h1)
    exact .inr ⟨j, h1, h2, h3, by omega, by omega⟩
theorem Rlx.relax {N : WNet} {S : Nat -> Prop} {d : List Int} (hN : N.Ok) (H : Rlx N S d) {i : Nat} (hi : i < N.m) : Rlx N S (relaxE N d i) := by
 unfold relaxE; split
 ·rename_i h; exact H.put hN hi h.1 h.2.1 (Int.le_refl _) h.2.2
 ·exact H
theorem Rlx.roundAt {N : WNet} {S : Nat -> Prop} {d : List Int} (hN : N.Ok) (H : Rlx N S d) : ∀ k, k <= N.m -> Rlx N S (roundAt N d k)
 | 0, _ => H
 | k + 1, h => by rw [roundAt_succ]; exact (H.roundAt hN k (by omega)).relax hN (by omega)
theorem Rlx.rounds {N : WNet} {S : Nat -> Prop} {d : List Int} (hN : N.Ok) (H : Rlx N S d) : ∀ k, Rlx N S (rounds N d k)
 | 0 => H
 | k + 1 => by rw [rounds_succ]; exact (H.rounds hN k).roundAt hN N.m (Nat.le_refl _)
theorem relax_le {N : WNet} (d : List Int) (i v : Nat) : at0 (relaxE N d i) v <= at0 d v := by
 unfold relaxE; split
 ·rename_i h
  rw [at0_set]; split
  ·rename_i q; rw [<- q.1]; omega
  ·exact Int.le_refl _
 ·exact Int.le_refl _
theorem roundAt_le {N : WNet} (d : List Int) (v : Nat) : ∀ k, at0 (roundAt N d k) v <= at0 d v
 | 0 => Int.le_refl _
 | k + 1 => by rw [roundAt_succ]; exact Int.le_trans (relax_le _ _ _) (roundAt_le d v k)
theorem roundAt_mono {N : WNet} (d : List Int) (v : Nat) {j : Nat} : ∀ k, j <= k -> at0 (roundAt N d k) v <= at0 (roundAt N d j) v
 | 0, h => by
  obtain rfl : j = 0 := by omega
  exact Int.le_refl _
 | k + 1, h => by
  by_cases e : j = k + 1
  ·subst e; exact Int.le_refl _
  ·rw [roundAt_succ]; exact Int.le_trans (relax_le _ _ _) (roundAt_mono d v k (by omega))
theorem round_edge {N : WNet} {S : Nat -> Prop} {d : List Int} (hN : N.Ok) (H : Rlx N S d) {i : Nat} (hi : i < N.m) (hw : N.w i < INF) (hs : at0 d (N.s i) < INF) : at0 (roundF N d) (N.t i) <= at0 d (N.s i) + N.w i := by
 unfold roundF
 refine Int.le_trans (roundAt_mono d _ N.m (show i + 1 <= N.m by omega)) ?_
 rw [roundAt_succ]
 have h1 := roundAt_le (N := N) d (N.s i) i
 have hR := H.roundAt hN i (by omega)
 unfold relaxE
 split
 ·rw [at0_set, if_pos ⟨rfl, by rw [hR.len]; exact hN.t i hi⟩]; omega
 ·rename_i h
  rcases int_lt_or_ge (at0 (roundAt N d i) (N.s i) + N.w i) (at0 (roundAt N d i) (N.t i)) with h2 | h2
  ·exact absurd ⟨hw, by omega, h2⟩ h
  ·omega
theorem countP_lt {p q : Nat -> Bool} : ∀ {l : List Nat}, (∀ x ∈ l, q x = true -> p x = true) -> (∃ x ∈ l, p x = true /\ q x = false) -> l.countP q < l.countP p
 | [], _, ⟨_, h, _⟩ => by cases h
 | a :: l, h1, ⟨x, hx, hp, hq⟩ => by
  have hle : l.countP q <= l.countP p := by
   clear hx hp hq x
   induction l with
   | nil => simp
   | cons b l ih =>
    have hb := h1 b (by simp)
    have := ih (fun x hx => h1 x (by simp only [List.mem_cons] at hx ⊢; rcases hx with h | h <;> simp [h]))
    rw [List.countP_cons, List.countP_cons]
    cases hqb : q b with
    | true => rw [hb hqb]; simp; omega
    | false => simp; cases p b <;> simp <;> omega
  rw [List.countP_cons, List.countP_cons]
  rcases List.mem_cons.1 hx with rfl | hx
  ·rw [hp, hq]; simp; omega
  ·have ha := h1 a (by simp)
   have := countP_lt (l := l) (fun x hx => h1 x (by simp [hx])) ⟨x, hx, hp, hq⟩
   cases hqa : q a with
   | true => rw [ha hqa]; simp; omega
   | false => simp; cases p a <;> simp <;> omega
theorem least_of (p : Nat -> Prop) (f : Nat -> Int) (hf : ∀ v, p v -> 0 <= f v) (h : ∃ v, p v) : ∃ v, p v /\ ∀ u, p u -> f v <= f u := by
 obtain ⟨v0, hv0⟩ := h
 have : ∀ (k : Nat) v, p v -> (f v).toNat < k -> ∃ v, p v /\ ∀ u, p u -> f v <= f u := by
  intro k
  induction k with
  | zero => intro v _ h; omega
  | succ k ih =>
   intro v hv hk
   by_cases h : ∃ u, p u /\ f u < f v
   ·obtain ⟨u, hu, hlt⟩ := h
    have := hf u hu
    exact ih u hu (by omega)
   ·refine ⟨v, hv, fun u hu => ?_⟩
    rcases int_lt_or_ge (f u) (f v) with q | q
    ·exact absurd ⟨u, hu, q⟩ h
    ·exact q
 exact this _ v0 hv0 (Nat.lt_succ_self _)
theorem rounds_sol {N : WNet} {S : Nat -> Prop} {d D : List Int} (hN : N.Ok) (H : Rlx N S d) (K : Sol N S D) : rounds N d N.n = D := by
 -- never below the solution
 have low : ∀ {e : List Int}, Rlx N S e -> ∀ v, v < N.n -> at0 D v <= at0 e v := by
  intro e E
  have key : ∀ (k : Nat) v, v < N.n -> (at0 e v).toNat < k -> at0 D v <= at0 e v := by
   intro k
   induction k with
   | zero => intro v _ h; omega
   | succ k ih =>
    intro v hv hk
    by_cases hi : at0 e v < INF
    ·rcases E.tig v hv hi with ⟨h1, h2⟩ | ⟨i, h1, h2, h3, h4, h5⟩
     ·rw [K.src v hv h1]; omega
     ·have hu := hN.s i h1
      have hw := hN.w i h1 h2
      have := E.nn _ hu
      have h6 := ih _ hu (by omega)
      have h7 := K.clo i h1 h2 (by omega)
      rw [h3] at h7; omega
    ·have := K.le v hv; omega
  exact fun v hv => key _ v hv (Nat.lt_succ_self _)
 have step : ∀ k, (∀ v, v < N.n -> at0 (rounds N d k) v = at0 D v) ∨ (List.range N.n).countP (fun v => decide (at0 (rounds N d k) v ≠ at0 D v)) + k <= N.n := by
  intro k
  induction k with
  | zero => right; have := List.countP_le_length (p := fun v => decide (at0 (rounds N d 0) v ≠ at0 D v)) (l := List.range N.n); simp at this ⊢; omega
  | succ k ih =>
   have R := H.rounds hN k
   have R1 := H.rounds hN (k + 1)
   have le1 : ∀ v, at0 (rounds N d (k + 1)) v <= at0 (rounds N d k) v := fun v => by rw [rounds_succ]; exact roundAt_le _ _ _
   have stay : ∀ v, v < N.n -> at0 (rounds N d k) v = at0 D v -> at0 (rounds N d (k + 1)) v = at0 D v := by
    intro v hv h
    have := le1 v; have := low R1 v hv; omega
   by_cases hall : ∃ v, v < N.n /\ at0 (rounds N d k) v ≠ at0 D v
   ·obtain ⟨v, ⟨hv, hne⟩, hmin⟩ := least_of (fun v => v < N.n /\ at0 (rounds N d k) v ≠ at0 D v) (at0 D) (fun v h => K.nn v h.1) hall
    have hlo := low R v hv
    have hfin : at0 D v < INF := by have := R.le v hv; omega
    have hnow : at0 (rounds N d (k + 1)) v = at0 D v := by
     rcases K.tig v hv hfin with ⟨h1, h2⟩ | ⟨i, h1, h2, h3, h4, h5⟩
     ·exact absurd (by rw [R.src v hv h1, h2]) hne
     ·have hu := hN.s i h1
      have hw := hN.w i h1 h2
      have hset : at0 (rounds N d k) (N.s i) = at0 D (N.s i) := by
       apply Classical.byContradiction
       intro hc
       have := hmin (N.s i) ⟨hu, hc⟩
       omega
      have h6 := round_edge hN R h1 h2 (by omega)
      rw [<- rounds_succ, h3] at h6
      have := low R1 v hv
      omega
    rcases ih with ih | ih
    ·exact absurd (ih v hv) hne
    ·right
     have := countP_lt (p := fun v => decide (at0 (rounds N d k) v ≠ at0 D v)) (q := fun v => decide (at0 (rounds N d (k + 1)) v ≠ at0 D v)) (l := List.range N.n)
      (fun x hx hq => decide_eq_true (fun he => of_decide_eq_true hq (stay x (List.mem_range.1 hx) he))) ⟨v, List.mem_range.2 hv, decide_eq_true hne, decide_eq_false (fun q => q hnow)⟩
     omega
   ·left
    intro v hv
    refine stay v hv ?_
    apply Classical.byContradiction
    intro hc
    exact hall ⟨v, hv, hc⟩
 refine list_ext0 (by rw [(H.rounds hN _).len, K.len]) fun v hv => ?_
 rw [(H.rounds hN _).len] at hv
 rcases step N.n with h | h
 ·exact h v hv
 ·have h0 : (List.range N.n).countP (fun v => decide (at0 (rounds N d N.n) v ≠ at0 D v)) = 0 := by omega
  rw [List.countP_eq_zero] at h0
  have := h0 v (List.mem_range.2 hv)
  simpa using this
theorem sol_exists {N : WNet} {S : Nat -> Prop} {d : List Int} (hN : N.Ok) (H : Rlx N S d) : ∃ D, Sol N S D := by
 have key : ∀ (k : Nat) (d : List Int), Rlx N S d -> ((List.range N.n).map (at0 d)).sum.toNat < k -> ∃ D, Sol N S D := by
  intro k
  induction k with
  | zero => intro d _ h; omega
  | succ k ih =>
   intro d H hk
   by_cases hc : ∃ i, i < N.m /\ N.w i < INF /\ at0 d (N.s i) < INF /\ at0 d (N.s i) + N.w i < at0 d (N.t i)
   ·obtain ⟨i, h1, h2, h3, h4⟩ := hc
    have H' := H.put hN h1 h2 h3 (Int.le_refl _) h4
    refine ih _ H' ?_
    have hs : ∀ (l : List Nat) (f g : Nat -> Int), (∀ v ∈ l, f v <= g v) -> (l.map f).sum <= (l.map g).sum := by
     intro l f g h
     induction l with
     | nil => simp
     | cons a l ih => have := h a (by simp); have := ih (fun v hv => h v (by simp [hv])); simp; omega
    have hs' : ∀ (l : List Nat) (f g : Nat -> Int), (∀ v ∈ l, f v <= g v) -> (∃ v ∈ l, f v < g v) -> (l.map f).sum < (l.map g).sum := by
     intro l f g h hex
     induction l with
     | nil => obtain ⟨v, hv, _⟩ := hex; cases hv
     | cons a l ih =>
      obtain ⟨v, hv, hlt⟩ := hex
      rcases List.mem_cons.1 hv with rfl | hv
      ·have := hs l f g (fun v hv => h v (by simp [hv])); simp; omega
      ·have := h a (by simp); have := ih (fun v hv => h v (by simp [hv])) ⟨v, hv, hlt⟩; simp; omega
    have e : ∀ v, v < N.n -> at0 (d.set (N.t i) (at0 d (N.s i) + N.w i)) v = if N.t i = v then at0 d (N.s i) + N.w i else at0 d v := by
     intro v hv
     rw [at0_set, H.len]
     by_cases h : N.t i = v
     ·rw [if_pos ⟨h, hv⟩, if_pos h]
     ·rw [if_neg (fun q => h q.1), if_neg h]
    have := hs' (List.range N.n) (at0 (d.set (N.t i) (at0 d (N.s i) + N.w i))) (at0 d) (fun v hv => by
     rw [List.mem_range] at hv
     rw [e v hv]; split
     ·rename_i q; subst q; omega
     ·exact Int.le_refl _) ⟨N.t i, List.mem_range.2 (hN.t i h1), by rw [e _ (hN.t i h1), if_pos rfl]; exact h4⟩
    have h0 : 0 <= ((List.range N.n).map (at0 (d.set (N.t i) (at0 d (N.s i) + N.w i)))).sum := by
     have := hs (List.range N.n) (fun _ => 0) (at0 (d.set (N.t i) (at0 d (N.s i) + N.w i))) (fun v hv => H'.nn v (List.mem_range.1 hv))
     have z : ∀ l : List Nat, (l.map fun _ => (0 : Int)).sum = 0 := by intro l; induction l with | nil => rfl | cons a l ih => simp [ih]
     rw [z] at this; exact this
    omega
   ·refine ⟨d, H.len, H.nn, H.le, H.src, fun i h1 h2 h3 => ?_, fun v hv h => ?_⟩
    ·rcases int_lt_or_ge (at0 d (N.s i) + N.w i) (at0 d (N.t i)) with q | q
     ·exact absurd ⟨i, h1, h2, h3, q⟩ hc
     ·exact q
    ·rcases H.tig v hv h with h | ⟨i, h1, h2, h3, h4, h5⟩
     ·exact .inl h
     ·refine .inr ⟨i, h1, h2, h3, h4, ?_⟩
      rcases int_lt_or_ge (at0 d (N.s i) + N.w i) (at0 d v) with q | q
      ·exact absurd ⟨i, h1, h2, h4, by rw [h3]; exact q⟩ hc
      ·omega
 exact key _ d H (Nat.lt_succ_self _)
def initL (n : Nat) (S : Nat -> Bool) : List Int := (List.range n).map fun v => if S v then 0 else INF
theorem initL_at {n v : Nat} {S : Nat -> Bool} (h : v < n) : at0 (initL n S) v = if S v then 0 else INF := by
 unfold at0 initL
 rw [List.getD_eq_getElem?_getD, List.getElem?_map, List.getElem?_range h]; rfl
theorem initL_rlx {N : WNet} (S : Nat -> Bool) : Rlx N (fun v => S v = true) (initL N.n S) := by
 refine ⟨by simp [initL], fun v hv => ?_, fun v hv => ?_, fun v hv h => ?_, fun v hv h => ?_⟩
 ·rw [initL_at hv]; split <;> decide
 ·rw [initL_at hv]; split <;> decide
 ·rw [initL_at hv, if_pos h]
 ·rw [initL_at hv] at h ⊢
  split at h
  ·rename_i q; exact .inl ⟨q, if_pos q⟩
  ·exact absurd h (Int.lt_irrefl _)
def distF (N : WNet) (S : Nat -> Bool) : List Int := rounds N (initL N.n S) N.n
theorem distF_sol {N : WNet} (hN : N.Ok) (S : Nat -> Bool) : Sol N (fun v => S v = true) (distF N S) := by
 obtain ⟨D, hD⟩ := sol_exists hN (initL_rlx (N := N) S)
 unfold distF
 rw [rounds_sol hN (initL_rlx S) hD]
 exact hD
theorem distF_eq {N : WNet} (hN : N.Ok) {S : Nat -> Bool} {d : List Int} (h : Sol N (fun v => S v = true) d) : d = distF N S := h.uniq hN (distF_sol hN S)
end Go.Sym