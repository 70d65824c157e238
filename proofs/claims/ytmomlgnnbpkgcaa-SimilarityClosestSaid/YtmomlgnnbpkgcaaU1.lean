import Derived.Test.YtmomlgnnbpkgcaaP7
namespace Go.Sym
set_option linter.unusedVariables false
inductive Wlk (N : WNet) : Nat -> Nat -> Int -> Prop
 | nil (v : Nat) : v < N.n -> Wlk N v v 0
 | snoc {u v : Nat} {c : Int} (i : Nat) : Wlk N u v c -> i < N.m -> N.w i < INF -> N.s i = v -> Wlk N u (N.t i) (c + N.w i)
theorem Wlk.cons {N : WNet} (hN : N.Ok) (i : Nat) (hi : i < N.m) (hw : N.w i < INF) {u v : Nat} {c : Int} (h : Wlk N u v c) : u = N.t i -> Wlk N (N.s i) v (c + N.w i) := by
 induction h with
 | nil hv =>
  intro e; subst e
  have := Wlk.snoc (N := N) i (.nil _ (hN.s i hi)) hi hw rfl
  exact this
 | snoc j h hj hwj hs ih =>
  intro e
  have := Wlk.snoc (N := N) j (ih e) hj hwj hs
  rwa [show ∀ a b c : Int, a + b + c = a + c + b by intros; omega] at this
theorem Wlk.back {N N' : WNet} (hN : N'.Ok) (hn : N'.n = N.n) (hm : N'.m = N.m) (hs : N'.s = N.t) (ht : N'.t = N.s) (hw : N'.w = N.w) {u v : Nat} {c : Int} (h : Wlk N u v c) : Wlk N' v u c := by
 induction h with
 | nil hv => exact .nil _ (hn ▸ hv)
 | snoc i h hi hwi hsi ih =>
  have := Wlk.cons hN i (hm ▸ hi) (hw ▸ hwi) ih (by rw [ht]; exact hsi.symm)
  rwa [hs, hw] at this
theorem Wlk.rng {N : WNet} (hN : N.Ok) {u v : Nat} {c : Int} (h : Wlk N u v c) : u < N.n /\ v < N.n /\ 0 <= c := by
 induction h with
 | nil hv => exact ⟨hv, hv, Int.le_refl _⟩
 | snoc i h hi hw hs ih =>
  exact ⟨ih.1, hN.t i hi, by have := ih.2.2; have := hN.w i hi hw; omega⟩
theorem Sol.wlk {N : WNet} (hN : N.Ok) {S : Nat -> Prop} {d : List Int} (H : Sol N S d) {u v : Nat} {c : Int} (h : Wlk N u v c) : S u -> at0 d v <= c := by
 induction h with
 | nil hv => intro hs; rw [H.src _ hv hs]; exact Int.le_refl _
 | snoc i h hi hw hs ih =>
  intro hsu
  have h1 := ih hsu
  have h2 := hN.w i hi hw
  have h3 := H.le _ (hN.t i hi)
  subst hs
  by_cases q : at0 d (N.s i) < INF
  ·have := H.clo i hi hw q; omega
  ·omega
theorem Sol.att {N : WNet} (hN : N.Ok) {S : Nat -> Prop} {d : List Int} (H : Sol N S d) : ∀ (k : Nat) v, v < N.n -> (at0 d v).toNat < k -> at0 d v < INF -> ∃ u, S u /\ Wlk N u v (at0 d v)
 | 0, v, _, h, _ => by omega
 | k + 1, v, hv, hk, hi => by
  rcases H.tig v hv hi with ⟨h1, h2⟩ | ⟨i, h1, h2, h3, h4, h5⟩
  ·exact ⟨v, h1, by rw [h2]; exact .nil _ hv⟩
  ·have hu := hN.s i h1
   have hw := hN.w i h1 h2
   have := H.nn _ hu
   obtain ⟨u, a, b⟩ := Sol.att hN H k _ hu (by omega) h4
   refine ⟨u, a, ?_⟩
   have := Wlk.snoc (N := N) i b h1 h2 rfl
   rw [h5, <- h3]; exact this
theorem dist_back {g : Gr} (hg : GOk g) (ts : List Int) (a b : List Int) (f1 f2 : Bool) (hf : f2 = !f1) {v : Nat} (hv : v < g.n) (hb : (v : Int) ∈ b) (hi : (distG g ts a f1).getD v default < INF) :
  ∃ u : Nat, u < g.n /\ (u : Int) ∈ a /\ (distG g ts b f2).getD u default <= (distG g ts a f1).getD v default := by
 have hN := netG_ok hg (wsOk_tt g ts) f1
 have hM := netG_ok hg (wsOk_tt g ts) f2
 have H := distF_sol hN (isSrc a)
 have K := distF_sol hM (isSrc b)
 obtain ⟨u, h1, h2⟩ := H.att hN _ v hv (Nat.lt_succ_self _) hi
 have h3 := h2.rng hN
 have h4 : Wlk (netG g (ttL ts g.es.length) f2) v u _ := Wlk.back (N := netG g (ttL ts g.es.length) f1) hM rfl rfl (by subst hf; cases f1 <;> rfl) (by subst hf; cases f1 <;> rfl) rfl h2
 exact ⟨u, h3.1, isSrc_iff.1 h1, K.wlk hM h4 (isSrc_iff.2 hb)⟩
def minN (n : Nat) (F : Int -> Int) (l : List Int) (m : Int) : Int := l.foldl (fun m (v : Int) => if 0 <= v /\ v < (n : Int) then min m (F v) else m) m
theorem minN_spec (n : Nat) (F : Int -> Int) : ∀ (l : List Int) (m : Int), minN n F l m <= m /\ (∀ v ∈ l, 0 <= v -> v < n -> minN n F l m <= F v) /\ (minN n F l m = m ∨ ∃ v ∈ l, 0 <= v /\ v < n /\ minN n F l m = F v)
 | [], m => ⟨Int.le_refl _, fun v hv => (by cases hv), .inl rfl⟩
 | x :: l, m => by
  have e : minN n F (x :: l) m = minN n F l (if 0 <= x /\ x < n then min m (F x) else m) := rfl
  rw [e]
  obtain ⟨h1, h2, h3⟩ := minN_spec n F l (if 0 <= x /\ x < n then min m (F x) else m)
  by_cases hx : 0 <= x /\ x < n
  ·rw [if_pos hx] at *
   refine ⟨by omega, fun v hv a b => ?_, ?_⟩
   ·rcases List.mem_cons.1 hv with q | q
    ·subst q; omega
    ·exact h2 v q a b
   ·rcases h3 with q | ⟨v, hv, a, b, q⟩
    ·rcases (show min m (F x) = m ∨ min m (F x) = F x by omega) with e | e
     ·exact .inl (q.trans e)
     ·exact .inr ⟨x, by simp, hx.1, hx.2, q.trans e⟩
    ·exact .inr ⟨v, List.mem_cons_of_mem _ hv, a, b, q⟩
  ·rw [if_neg hx] at *
   refine ⟨h1, fun v hv a b => ?_, ?_⟩
   ·rcases List.mem_cons.1 hv with q | q
    ·subst q; exact absurd ⟨a, b⟩ hx
    ·exact h2 v q a b
   ·rcases h3 with q | ⟨v, hv, a, b, q⟩
    ·exact .inl q
    ·exact .inr ⟨v, List.mem_cons_of_mem _ hv, a, b, q⟩
def atI (D : List Int) (v : Int) : Int := D.getD v.toNat default
def gapP (g : Gr) (ts a b : List Int) : Int := minN g.n (fun v => min (atI (distG g ts a true) v) (atI (distG g ts a false) v)) b INF
def gapR (g : Gr) (ts a b : List Int) : Int := minN g.n (atI (distG g ts b true)) a (minN g.n (atI (distG g ts a true)) b INF)
theorem gapP_le (g : Gr) (ts a b : List Int) : gapP g ts a b <= INF := (minN_spec _ _ _ _).1
theorem gapR_spec (g : Gr) (ts a b : List Int) : gapR g ts a b <= INF /\ (∀ v ∈ b, 0 <= v -> v < g.n -> gapR g ts a b <= atI (distG g ts a true) v) /\ (∀ v ∈ a, 0 <= v -> v < g.n -> gapR g ts a b <= atI (distG g ts b true) v) /\
  (gapR g ts a b = INF ∨ (∃ v ∈ b, 0 <= v /\ v < g.n /\ gapR g ts a b = atI (distG g ts a true) v) ∨ ∃ v ∈ a, 0 <= v /\ v < g.n /\ gapR g ts a b = atI (distG g ts b true) v) := by
 obtain ⟨h1, h2, h3⟩ := minN_spec g.n (atI (distG g ts a true)) b INF
 obtain ⟨k1, k2, k3⟩ := minN_spec g.n (atI (distG g ts b true)) a (minN g.n (atI (distG g ts a true)) b INF)
 refine ⟨Int.le_trans k1 h1, fun v hv p q => Int.le_trans k1 (h2 v hv p q), k2, ?_⟩
 rcases k3 with q | q
 ·rcases h3 with r | ⟨v, a1, a2, a3, a4⟩
  ·exact .inl (q.trans r)
  ·exact .inr (.inl ⟨v, a1, a2, a3, q.trans a4⟩)
 ·exact .inr (.inr q)
theorem gapR_sym (g : Gr) (ts a b : List Int) : gapR g ts a b = gapR g ts b a := by
 have key : ∀ a b, gapR g ts a b <= gapR g ts b a := fun a b => by
  obtain ⟨h1, h2, h3, _⟩ := gapR_spec g ts a b
  obtain ⟨_, _, _, h4⟩ := gapR_spec g ts b a
  rcases h4 with q | ⟨v, p, q, r, s⟩ | ⟨v, p, q, r, s⟩
  ·rw [q]; exact h1
  ·rw [s]; exact h3 v p q r
  ·rw [s]; exact h2 v p q r
 exact Int.le_antisymm (key a b) (key b a)
theorem toN {v : Int} (h : 0 <= v) : ((v.toNat : Nat) : Int) = v := by omega
theorem gap_eq {g : Gr} (hg : GOk g) (ts a b : List Int) : gapP g ts a b = gapR g ts a b := by
 obtain ⟨h1, h2, h3⟩ := minN_spec g.n (fun v => min (atI (distG g ts a true) v) (atI (distG g ts a false) v)) b INF
 obtain ⟨k1, k2, k3, k4⟩ := gapR_spec g ts a b
 have cap := fun (l : List Int) (f : Bool) (v : Nat) (hv : v < g.n) => (dist_rng hg ts l f hv).2
 apply Int.le_antisymm
 ·unfold gapP
  rcases k4 with q | ⟨v, p, q, r, s⟩ | ⟨v, p, q, r, s⟩
  ·rw [q]; exact h1
  ·rw [s]; have := h2 v p q r; omega
  ·rw [s]
   by_cases hi : atI (distG g ts b true) v < INF
   ·obtain ⟨u, c1, c2, c3⟩ := dist_back hg ts b a true false rfl (v := v.toNat) (by omega) (by rw [toN q]; exact p) hi
    have := h2 u c2 (by omega) (by omega)
    have c3 : atI (distG g ts a false) u <= atI (distG g ts b true) v := c3
    omega
   ·have := cap b true v.toNat (by omega)
    unfold atI INF at *; omega
 ·unfold gapP
  rcases h3 with q | ⟨v, p, q, r, s⟩
  ·rw [q]; exact k1
  ·rw [s]
   have h5 := k2 v p q r
   by_cases hi : atI (distG g ts a false) v < INF
   ·obtain ⟨u, c1, c2, c3⟩ := dist_back hg ts a b false true rfl (v := v.toNat) (by omega) (by rw [toN q]; exact p) hi
    have := k3 u c2 (by omega) (by omega)
    have c3 : atI (distG g ts b true) u <= atI (distG g ts a false) v := c3
    omega
   ·have := cap a false v.toNat (by omega)
    have := cap a true v.toNat (by omega)
    unfold atI INF at *; omega
theorem gap_sym {g : Gr} (hg : GOk g) (ts a b : List Int) : gapP g ts a b = gapP g ts b a := by rw [gap_eq hg, gap_eq hg, gapR_sym]
theorem gap_nn {g : Gr} (hg : GOk g) (ts a b : List Int) : 0 <= gapP g ts a b := by
 obtain ⟨_, _, h3⟩ := minN_spec g.n (fun v => min (atI (distG g ts a true) v) (atI (distG g ts a false) v)) b INF
 unfold gapP
 rcases h3 with q | ⟨v, p, q, r, s⟩
 ·rw [q]; decide
 ·rw [s]
  have := (dist_rng hg ts a true (v := v.toNat) (by omega)).1
  have := (dist_rng hg ts a false (v := v.toNat) (by omega)).1
  unfold atI; omega
theorem gap_slow {g : Gr} (hg : GOk g) {ts us : List Int} (h : ∀ i, i < g.es.length -> tt ts i <= tt us i) (a b : List Int) : gapP g ts a b <= gapP g us a b := by
 have key : ∀ (f : Bool) (v : Nat), v < g.n -> (distG g ts a f).getD v default <= (distG g us a f).getD v default := fun f v hv => by
  have hN := netG_ok hg (wsOk_tt g ts) f
  have hM := netG_ok hg (wsOk_tt g us) f
  have H := distF_sol hN (isSrc a)
  have K := distF_sol hM (isSrc a)
  refine K.least hM H.le (fun v hv hs => by rw [H.src v hv hs]; exact Int.le_refl _) (fun i hi hw hs => ?_) v hv
  have e1 : (netG g (ttL us g.es.length) f).w i = tt us i := ttL_at hi
  have e2 : (netG g (ttL ts g.es.length) f).w i = tt ts i := ttL_at hi
  rw [e1] at hw ⊢
  have h1 := h i hi
  have h2 := H.clo i hi (by rw [e2]; omega) hs
  rw [e2] at h2
  have h2 : at0 (distF (netG g (ttL ts g.es.length) f) (isSrc a)) ((netG g (ttL us g.es.length) f).t i) <= at0 (distF (netG g (ttL ts g.es.length) f) (isSrc a)) ((netG g (ttL us g.es.length) f).s i) + tt ts i := h2
  omega
 obtain ⟨h1, h2, _⟩ := minN_spec g.n (fun v => min (atI (distG g ts a true) v) (atI (distG g ts a false) v)) b INF
 obtain ⟨_, _, k3⟩ := minN_spec g.n (fun v => min (atI (distG g us a true) v) (atI (distG g us a false) v)) b INF
 unfold gapP
 rcases k3 with q | ⟨v, p, q, r, s⟩
 ·rw [q]; exact h1
 ·rw [s]
  have e1 := key true v.toNat (by omega)
  have e2 := key false v.toNat (by omega)
  have := h2 v p q r
  unfold atI at *; omega
end Go.Sym