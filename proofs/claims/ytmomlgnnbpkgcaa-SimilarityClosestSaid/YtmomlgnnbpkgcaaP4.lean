import Derived.Test.YtmomlgnnbpkgcaaP3
namespace Go.Sym
set_option linter.unusedVariables false
theorem swapL_perm {l : List Int} {i j : Nat} (hi : i < l.length) (hj : j < l.length) : (swapL l i j).Perm l := by
 have h := Array.swap_perm (xs := l.toArray) (i := i) (j := j) (by simpa using hi) (by simpa using hj)
 have h2 := Array.perm_iff_toList_perm.1 h
 have e : (l.toArray.swap i j (by simpa using hi) (by simpa using hj)).toList = swapL l i j := by
  simp [swapL, Array.swap, List.getD_eq_getElem?_getD, hi, hj]
 rw [e] at h2
 simpa using h2
theorem up_perm (l : List Int) (i : Nat) (hi : i < l.length) : (up l i).Perm l := by
 induction l, i using up.induct with
 | case1 l i h ih =>
  rw [up_step h]
  exact (ih (by rw [swapL_len]; omega)).trans (swapL_perm hi (by omega))
 | case2 l i h => rw [up_stop h]
theorem pushF_mem {q : List Int} {c x : Int} : x ∈ pushF q c ↔ x ∈ q ∨ x = c := by
 unfold pushF
 rw [(up_perm _ _ (by simp)).mem_iff]
 simp
theorem down_perm (l : List Int) (i n : Nat) (hn : n <= l.length) (hi : i < l.length) : (down l i n).Perm l := by
 induction l, i using down.induct n with
 | case1 l i h ih =>
  rw [down_step h]
  have := kid_lt (l := l) h.1
  exact (ih (by rw [swapL_len]; exact hn) (by rw [swapL_len]; omega)).trans (swapL_perm hi (by omega))
 | case2 l i h => rw [down_stop h]
theorem down_tail (l : List Int) (i n : Nat) (hn : n <= l.length) (hi : i < n) : (down l i n).drop n = l.drop n := by
 induction l, i using down.induct n with
 | case1 l i h ih =>
  rw [down_step h]
  have := kid_lt (l := l) h.1
  rw [ih (by rw [swapL_len]; exact hn) this]
  unfold swapL
  rw [List.drop_set_of_lt (by omega), List.drop_set_of_lt (by omega)]
 | case2 l i h => rw [down_stop h]
theorem popF_mem {q : List Int} (hq : 1 <= q.length) {x : Int} : x ∈ q ↔ x = q.getD 0 default ∨ x ∈ popF q := by
 obtain ⟨a, r, rfl⟩ : ∃ a r, q = a :: r := by cases q with | nil => simp at hq | cons a r => exact ⟨a, r, rfl⟩
 unfold popF
 have hlast : (a :: r).getD ((a :: r).length - 1) default = if r = [] then a else r.getD (r.length - 1) default := by
  cases r with
  | nil => rfl
  | cons b r => simp
 by_cases hr : r = []
 ·subst hr; simp
 ·have hrl : 0 < r.length := List.length_pos_iff.2 hr
  rw [hlast, if_neg hr]
  generalize hz : r.getD (r.length - 1) default = z
  have e1 : (a :: r).set 0 z = z :: r := rfl
  have e2 : (a :: r).length - 1 = r.length := by simp
  rw [e1, e2]
  have hp := down_perm (z :: r) 0 r.length (by simp) (by simp)
  have ht := down_tail (z :: r) 0 r.length (by simp) hrl
  have e3 : (z :: r).drop r.length = [z] := by
   have hd : (z :: r).drop r.length = r.drop (r.length - 1) := by
    obtain ⟨k, hk⟩ : ∃ k, r.length = k + 1 := ⟨r.length - 1, by omega⟩
    rw [hk]; rfl
   rw [hd, List.drop_eq_getElem_cons (by omega)]
   rw [show r.length - 1 + 1 = r.length by omega, List.drop_length, <- hz]
   simp [List.getD_eq_getElem?_getD, show r.length - 1 < r.length by omega]
  rw [e3] at ht
  have hsplit := List.take_append_drop r.length (down (z :: r) 0 r.length)
  rw [ht] at hsplit
  have hp2 : ((down (z :: r) 0 r.length).take r.length ++ [z]).Perm (r ++ [z]) := by
   rw [hsplit]; exact hp.trans (List.perm_append_singleton z r).symm
  have hp3 := (List.perm_append_right_iff [z]).1 hp2
  rw [hp3.mem_iff]
  simp
structure SX where
 g : Gr
 ws : List Int
 ends : List Int
 fwd : Bool
def netG (g : Gr) (ws : List Int) (fwd : Bool) : WNet :=
 ⟨g.n, g.es.length, fun i => (cond fwd (g.es.getD i default).f (g.es.getD i default).t).toNat, fun i => (cond fwd (g.es.getD i default).t (g.es.getD i default).f).toNat, fun i => ws.getD i default⟩
def isSrc (ends : List Int) (v : Nat) : Bool := ends.any fun s => s == (v : Int)
structure WsOk (g : Gr) (ws : List Int) : Prop where
 len : ws.length = g.es.length
 ok : ∀ i, i < g.es.length -> ws.getD i default = INF ∨ (1 <= ws.getD i default /\ ws.getD i default <= 1048576)
theorem netG_ok {g : Gr} {ws : List Int} (hg : GOk g) (hw : WsOk g ws) (fwd : Bool) : (netG g ws fwd).Ok := by
 refine ⟨fun i hi => ?_, fun i hi => ?_, fun i hi h => ?_⟩
 ·have := hg.e i hi; unfold edOk at this; cases fwd <;> simp only [netG, cond] <;> omega
 ·have := hg.e i hi; unfold edOk at this; cases fwd <;> simp only [netG, cond] <;> omega
 ·have := hw.ok i hi
  have h : ws.getD i default < INF := h
  show 1 <= ws.getD i default
  omega
def capC : Int := 12582913
def psi (n : Nat) (d : List Int) : Int := ((List.range n).map fun v => min (at0 d v) capC).sum
def cnt (n : Nat) (d : List Int) : Nat := (List.range n).countP fun v => decide (at0 d v < INF)
theorem sum_set {n : Nat} {f g : Nat -> Int} {v : Nat} (hv : v < n) (h : ∀ u, u < n -> u ≠ v -> g u = f u) : ((List.range n).map g).sum = ((List.range n).map f).sum - f v + g v := by
 induction n with
 | zero => omega
 | succ n ih =>
  rw [List.range_succ, List.map_append, List.map_append, List.sum_append, List.sum_append]
  simp only [List.map_cons, List.map_nil, List.sum_cons, List.sum_nil]
  by_cases e : v = n
  ·subst e
   have : (List.range v).map g = (List.range v).map f := List.map_congr_left fun u hu => h u (by have := List.mem_range.1 hu; omega) (by have := List.mem_range.1 hu; omega)
   rw [this]; omega
  ·have := ih (by omega) (fun u hu => h u (by omega))
   have := h n (by omega) (fun q => e q.symm)
   omega
theorem psi_nn {n : Nat} {d : List Int} (h : ∀ v, v < n -> 0 <= at0 d v) : 0 <= psi n d := by
 unfold psi
 have : ∀ l : List Nat, (∀ v ∈ l, 0 <= at0 d v) -> 0 <= (l.map fun v => min (at0 d v) capC).sum := by
  intro l
  induction l with
  | nil => intro _; simp
  | cons a l ih => intro h; have := h a (by simp); have := ih (fun v hv => h v (by simp [hv])); simp [capC] at *; omega
 exact this _ fun v hv => h v (List.mem_range.1 hv)
theorem psi_set {n : Nat} {d : List Int} {v : Nat} {x : Int} (hl : d.length = n) (hv : v < n) (h1 : x < at0 d v) (h2 : x < capC) : psi n (d.set v x) + 1 <= psi n d := by
 unfold psi
 rw [sum_set (f := fun v => min (at0 d v) capC) (g := fun u => min (at0 (d.set v x) u) capC) hv]
 ·have : at0 (d.set v x) v = x := by rw [at0_set, if_pos ⟨rfl, by omega⟩]
  simp only [this]
  omega
 ·intro u hu hne
  rw [at0_set, if_neg (fun q => hne q.1.symm)]
theorem cnt_set_new {n : Nat} {d : List Int} {v : Nat} {x : Int} (hl : d.length = n) (hv : v < n) (h1 : ¬ at0 d v < INF) (h2 : x < INF) : cnt n (d.set v x) = cnt n d + 1 := by
 unfold cnt
 have e : ∀ m, v < m -> m <= n -> (List.range m).countP (fun u => decide (at0 (d.set v x) u < INF)) = (List.range m).countP (fun u => decide (at0 d u < INF)) + 1 := by
  intro m
  induction m with
  | zero => intro h; omega
  | succ m ih =>
   intro h1' h2'
   rw [List.range_succ, List.countP_append, List.countP_append]
   by_cases e : v = m
   ·subst e
    have : (List.range v).countP (fun u => decide (at0 (d.set v x) u < INF)) = (List.range v).countP (fun u => decide (at0 d u < INF)) := by
     apply List.countP_congr
     intro u hu
     have := List.mem_range.1 hu
     rw [at0_set, if_neg (by omega)]
    rw [this]
    have e1 : at0 (d.set v x) v = x := by rw [at0_set, if_pos ⟨rfl, by omega⟩]
    simp [e1, h1, h2]
   ·rw [ih (by omega) (by omega)]
    have : at0 (d.set v x) m = at0 d m := by rw [at0_set, if_neg (by omega)]
    simp [List.countP_cons, this]
    omega
 exact e n hv (Nat.le_refl _)
theorem cnt_set_old {n : Nat} {d : List Int} {v : Nat} {x : Int} (hl : d.length = n) (h1 : at0 d v < INF) (h2 : x < INF) : cnt n (d.set v x) = cnt n d := by
 unfold cnt
 apply List.countP_congr
 intro u hu
 rw [at0_set]
 split
 ·rename_i q; rw [<- q.1]; simp [h1, h2]
 ·exact Iff.rfl
theorem cnt_pos {n : Nat} {d : List Int} {v : Nat} (hv : v < n) (h : at0 d v < INF) : 1 <= cnt n d := by
 unfold cnt
 exact List.countP_pos_iff.2 ⟨v, List.mem_range.2 hv, decide_eq_true h⟩
theorem cnt_le (n : Nat) (d : List Int) : cnt n d <= n := by
 unfold cnt; have := List.countP_le_length (p := fun v => decide (at0 d v < INF)) (l := List.range n); simpa using this
structure Bd (N : WNet) (S : Nat -> Prop) (d q : List Int) : Prop where
 rlx : Rlx N S d
 bnd : ∀ v, v < N.n -> at0 d v < INF -> at0 d v <= ((cnt N.n d : Nat) - 1 : Int) * 1048576
 code : ∀ c ∈ q, ∃ (y : Int) (v : Nat), c = y * 4096 + v /\ v < N.n /\ at0 d v <= y /\ y <= 12582912
def Clo (N : WNet) (d : List Int) (u : Nat) : Prop := ∀ i, i < N.m -> N.w i < INF -> N.s i = u -> at0 d (N.t i) <= at0 d u + N.w i
structure MI (N : WNet) (S : Nat -> Prop) (d q : List Int) : Prop extends Bd N S d q where
 pend : ∀ u, u < N.n -> at0 d u < INF -> (at0 d u * 4096 + (u : Int)) ∈ q ∨ Clo N d u
 pot : q.length + psi N.n d <= 12 * capC
structure NI (N : WNet) (S : Nat -> Prop) (node : Nat) (dist : Int) (pot : Int) (dn : Nat -> Prop) (d q : List Int) : Prop extends Bd N S d q where
 at_ : at0 d node = dist
 pend : ∀ u, u < N.n -> u ≠ node -> at0 d u < INF -> (at0 d u * 4096 + (u : Int)) ∈ q ∨ Clo N d u
 pot : q.length + psi N.n d <= pot
 done : ∀ i, i < N.m -> dn i -> N.w i < INF -> at0 d (N.t i) <= dist + N.w i
theorem Bd.small {N : WNet} {S : Nat -> Prop} {d q : List Int} (B : Bd N S d q) (hn : N.n <= 12) {v : Nat} (hv : v < N.n) (h : at0 d v < INF) : at0 d v <= 11534336 := by
 have h1 := B.bnd v hv h
 have h2 := cnt_le N.n d
 have : ((cnt N.n d : Nat) - 1 : Int) * 1048576 <= 11 * 1048576 := Int.mul_le_mul_of_nonneg_right (by omega) (by decide)
 omega
theorem Bd.put {N : WNet} {S : Nat -> Prop} {d q : List Int} (hN : N.Ok) (hn : N.n <= 12) (B : Bd N S d q) {i : Nat} (hi : i < N.m) (hw : N.w i < INF) (hw2 : N.w i <= 1048576) (hs : at0 d (N.s i) < INF) (hlt : at0 d (N.s i) + N.w i < at0 d (N.t i)) :
  Bd N S (d.set (N.t i) (at0 d (N.s i) + N.w i)) (pushF q ((at0 d (N.s i) + N.w i) * 4096 + N.t i)) /\ at0 d (N.s i) + N.w i < capC := by
 have hu := hN.s i hi
 have ht := hN.t i hi
 have hw1 := hN.w i hi hw
 have hR := B.rlx.put hN hi hw hs (Int.le_refl _) hlt
 have hl := B.rlx.len
 have hb := B.bnd _ hu hs
 have hsm := B.small hn hu hs
 have hfin : at0 d (N.s i) + N.w i < INF := by have := B.rlx.le _ ht; omega
 have e : ∀ v, v < N.n -> at0 (d.set (N.t i) (at0 d (N.s i) + N.w i)) v = if N.t i = v then at0 d (N.s i) + N.w i else at0 d v := by
  intro v hv
  rw [at0_set, hl]
  by_cases h : N.t i = v
  ·rw [if_pos ⟨h, hv⟩, if_pos h]
  ·rw [if_neg (fun q => h q.1), if_neg h]
 have mono : ∀ v, v < N.n -> at0 (d.set (N.t i) (at0 d (N.s i) + N.w i)) v <= at0 d v := by
  intro v hv; rw [e v hv]; split
  ·rename_i h; subst h; omega
  ·exact Int.le_refl _
 refine ⟨⟨hR, fun v hv h => ?_, fun c hc => ?_⟩, by unfold capC; omega⟩
 ·have hcn : (((cnt N.n d : Nat) : Int) - 1) * 1048576 + (if at0 d (N.t i) < INF then 0 else 1048576) = ((cnt N.n (d.set (N.t i) (at0 d (N.s i) + N.w i)) : Nat) - 1 : Int) * 1048576 := by
   by_cases hf : at0 d (N.t i) < INF
   ·rw [if_pos hf, cnt_set_old hl hf hfin]; omega
   ·rw [if_neg hf, cnt_set_new hl ht hf hfin]; omega
  rw [<- hcn]
  rw [e v hv] at h ⊢
  by_cases hv2 : N.t i = v
  ·rw [if_pos hv2]
   by_cases hf : at0 d (N.t i) < INF
   ·have := B.bnd _ ht hf; rw [if_pos hf]; omega
   ·rw [if_neg hf]; omega
  ·rw [if_neg hv2] at h ⊢
   have := B.bnd v hv h
   split <;> omega
 ·rcases pushF_mem.1 hc with hc | rfl
  ·obtain ⟨y, v, h1, h2, h3, h4⟩ := B.code c hc
   exact ⟨y, v, h1, h2, by have := mono v h2; omega, h4⟩
  ·exact ⟨_, N.t i, rfl, ht, by rw [e _ ht, if_pos rfl]; exact Int.le_refl _, by omega⟩
def stepE (N : WNet) (dist : Int) (s : List Int × List Int) (i : Nat) : List Int × List Int :=
 if N.w i ≠ INF /\ dist + N.w i < at0 s.1 (N.t i) then (s.1.set (N.t i) (dist + N.w i), pushF s.2 ((dist + N.w i) * 4096 + N.t i)) else s
theorem NI.step {N : WNet} {S : Nat -> Prop} {node : Nat} {dist pot : Int} {dn : Nat -> Prop} {s : List Int × List Int} (hN : N.Ok) (hn : N.n <= 12) (hws : ∀ i, i < N.m -> N.w i = INF ∨ N.w i <= 1048576) (hd : dist < INF)
  (I : NI N S node dist pot dn s.1 s.2) {i : Nat} (hi : i < N.m) (hs : N.s i = node) : NI N S node dist pot (fun j => dn j ∨ j = i) (stepE N dist s i).1 (stepE N dist s i).2 := by
 obtain ⟨d, q⟩ := s
 unfold stepE
 have I : NI N S node dist pot dn d q := I
 have hat : at0 d node = dist := I.at_
 split
 ·rename_i h
  obtain ⟨h1, h2⟩ := h
  have h2 : dist + N.w i < at0 d (N.t i) := h2
  have hw : N.w i < INF := by have := hws i hi; unfold INF at *; omega
  have hw2 : N.w i <= 1048576 := (hws i hi).resolve_left h1
  have hx : at0 d (N.s i) = dist := by rw [hs]; exact hat
  have ht := hN.t i hi
  have hu := hN.s i hi
  have hw1 := hN.w i hi hw
  obtain ⟨B, hcap⟩ := I.toBd.put hN hn hi hw hw2 (by rw [hx]; exact hd) (by rw [hx]; exact h2)
  rw [hx] at B hcap
  have hl := I.rlx.len
  have e : ∀ v, v < N.n -> at0 (d.set (N.t i) (dist + N.w i)) v = if N.t i = v then dist + N.w i else at0 d v := by
   intro v hv
   rw [at0_set, hl]
   by_cases h : N.t i = v
   ·rw [if_pos ⟨h, hv⟩, if_pos h]
   ·rw [if_neg (fun q => h q.1), if_neg h]
  have mono : ∀ v, v < N.n -> at0 (d.set (N.t i) (dist + N.w i)) v <= at0 d v := by
   intro v hv; rw [e v hv]; split
   ·rename_i h; subst h; exact Int.le_of_lt h2
   ·exact Int.le_refl _
  refine ⟨B, ?_, fun u hu' hne h => ?_, ?_, fun j hj hdn hjw => ?_⟩
  ·show at0 (d.set (N.t i) (dist + N.w i)) node = dist
   rw [e node (hs ▸ hu), if_neg]
   ·exact hat
   ·intro q; rw [q] at h2; have : at0 d node = dist := hat; omega
  ·show at0 (d.set (N.t i) (dist + N.w i)) u * 4096 + (u : Int) ∈ pushF q ((dist + N.w i) * 4096 + N.t i) ∨ Clo N (d.set (N.t i) (dist + N.w i)) u
   have h : at0 (d.set (N.t i) (dist + N.w i)) u < INF := h
   rw [e u hu'] at h ⊢
   by_cases q : N.t i = u
   ·rw [if_pos q]; left; rw [pushF_mem]; right; rw [<- q]
   ·rw [if_neg q] at h ⊢
    rcases I.pend u hu' hne h with h | h
    ·left; rw [pushF_mem]; exact .inl h
    ·right
     intro j hj hjw hjs
     have h3 := h j hj hjw hjs
     have h4 := mono _ (hN.t j hj)
     rw [e u hu', if_neg q]; omega
  ·show ((pushF q ((dist + N.w i) * 4096 + N.t i)).length : Int) + psi N.n (d.set (N.t i) (dist + N.w i)) <= pot
   have := psi_set hl ht h2 hcap
   have := I.pot
   rw [pushF_len]; omega
  ·show at0 (d.set (N.t i) (dist + N.w i)) (N.t j) <= dist + N.w j
   rcases hdn with hdn | rfl
   ·have := I.done j hj hdn hjw
    have := mono _ (hN.t j hj)
    omega
   ·rw [e _ ht, if_pos rfl]; exact Int.le_refl _
 ·rename_i h
  refine ⟨I.toBd, hat, I.pend, I.pot, fun j hj hdn hjw => ?_⟩
  rcases hdn with hdn | rfl
  ·exact I.done j hj hdn hjw
  ·rcases int_lt_or_ge (dist + N.w j) (at0 d (N.t j)) with q | q
   ·exact absurd ⟨by omega, q⟩ h
   ·exact q
theorem NI.steps {N : WNet} {S : Nat -> Prop} {node : Nat} {dist pot : Int} (hN : N.Ok) (hn : N.n <= 12) (hws : ∀ i, i < N.m -> N.w i = INF ∨ N.w i <= 1048576) (hd : dist < INF) :
  ∀ (l : List Nat) (dn : Nat -> Prop) (s : List Int × List Int), NI N S node dist pot dn s.1 s.2 -> (∀ i ∈ l, i < N.m /\ N.s i = node) ->
   NI N S node dist pot (fun j => dn j ∨ j ∈ l) (l.foldl (stepE N dist) s).1 (l.foldl (stepE N dist) s).2
 | [], dn, s, I, _ => by
  refine ⟨I.toBd, I.at_, I.pend, I.pot, fun j hj h hw => ?_⟩
  exact I.done j hj (h.resolve_right (by simp)) hw
 | i :: l, dn, s, I, hl => by
  have h1 := I.step hN hn hws hd (hl i (by simp)).1 (hl i (by simp)).2
  have h2 := NI.steps hN hn hws hd l _ _ h1 (fun j hj => hl j (by simp [hj]))
  refine ⟨h2.toBd, h2.at_, h2.pend, h2.pot, fun j hj h hw => h2.done j hj ?_ hw⟩
  rcases h with h | h
  ·exact .inl (.inl h)
  ·rcases List.mem_cons.1 h with h | h
   ·exact .inl (.inr h)
   ·exact .inr h
theorem MI.pop {N : WNet} {S : Nat -> Prop} {d q : List Int} (hn : N.n <= 4096) (I : MI N S d q) (hq : 1 <= q.length) :
  ∃ (y : Int) (v : Nat), q.getD 0 default = y * 4096 + v /\ q.getD 0 default / 4096 = y /\ q.getD 0 default % 4096 = v /\ v < N.n /\ at0 d v <= y /\ 0 <= y /\ y <= 12582912 := by
 obtain ⟨y, v, h1, h2, h3, h4⟩ := I.code _ ((popF_mem hq).2 (.inl rfl))
 have := I.rlx.nn v h2
 exact ⟨y, v, h1, by omega, by omega, h2, h3, by omega, h4⟩
theorem MI.skip {N : WNet} {S : Nat -> Prop} {d q : List Int} (I : MI N S d q) (hq : 1 <= q.length) {y : Int} {v : Nat} (hc : q.getD 0 default = y * 4096 + v) (hv : v < N.n) (hn : N.n <= 4096) (hlt : at0 d v < y) : MI N S d (popF q) := by
 refine ⟨⟨I.rlx, I.bnd, fun c hc => I.code c ((popF_mem hq).2 (.inr hc))⟩, fun u hu h => ?_, ?_⟩
 ·rcases I.pend u hu h with h1 | h1
  ·rcases (popF_mem hq).1 h1 with h2 | h2
   ·rw [hc] at h2
    have e1 : u = v := by omega
    have e2 : at0 d u = y := by omega
    subst e1
    omega
   ·exact .inl h2
  ·exact .inr h1
 ·have := I.pot
  rw [popF_len]; omega
theorem MI.take {N : WNet} {S : Nat -> Prop} {d q : List Int} (I : MI N S d q) (hq : 1 <= q.length) {v : Nat} (hc : q.getD 0 default = at0 d v * 4096 + v) (hv : v < N.n) (hn : N.n <= 4096) :
  NI N S v (at0 d v) (q.length - 1 + psi N.n d) (fun _ => False) d (popF q) := by
 refine ⟨⟨I.rlx, I.bnd, fun c hc => I.code c ((popF_mem hq).2 (.inr hc))⟩, rfl, fun u hu hne h => ?_, ?_, fun _ _ h => h.elim⟩
 ·rcases I.pend u hu h with h1 | h1
  ·rcases (popF_mem hq).1 h1 with h2 | h2
   ·rw [hc] at h2; omega
   ·exact .inl h2
  ·exact .inr h1
 ·rw [popF_len]; omega
theorem NI.done' {N : WNet} {S : Nat -> Prop} {node : Nat} {dist pot : Int} {dn : Nat -> Prop} {d q : List Int} (hN : N.Ok) (I : NI N S node dist pot dn d q) (hdn : ∀ i, i < N.m -> N.s i = node -> dn i) (hp : pot <= 12 * capC) : MI N S d q := by
 refine ⟨I.toBd, fun u hu h => ?_, Int.le_trans I.pot hp⟩
 by_cases e : u = node
 ·subst e
  right
  intro i hi hw hs
  rw [I.at_]
  exact I.done i hi (hdn i hi hs) hw
 ·exact I.pend u hu e h
theorem MI.sol {N : WNet} {S : Nat -> Prop} {d q : List Int} (hN : N.Ok) (I : MI N S d q) (hq : q = []) : Sol N S d := by
 subst hq
 have clo : ∀ i, i < N.m -> N.w i < INF -> at0 d (N.s i) < INF -> at0 d (N.t i) <= at0 d (N.s i) + N.w i := by
  intro i hi hw hs
  rcases I.pend _ (hN.s i hi) hs with h | h
  ·cases h
  ·exact h i hi hw rfl
 refine ⟨I.rlx.len, I.rlx.nn, I.rlx.le, I.rlx.src, clo, fun v hv h => ?_⟩
 rcases I.rlx.tig v hv h with h | ⟨i, h1, h2, h3, h4, h5⟩
 ·exact .inl h
 ·refine .inr ⟨i, h1, h2, h3, h4, ?_⟩
  have := clo i h1 h2 h4
  rw [h3] at this; omega
end Go.Sym