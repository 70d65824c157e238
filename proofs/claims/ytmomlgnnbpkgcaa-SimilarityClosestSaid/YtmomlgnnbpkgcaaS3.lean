import Derived.Test.YtmomlgnnbpkgcaaS2
import Derived.Test.YtmomlgnnbpkgcaaXD
namespace Go.Sym
set_option linter.unusedVariables false
set_option linter.unusedSimpArgs false
open Go.Proofs
set_option maxHeartbeats 4000000
theorem srchLoop_good : LoopGood Try.prog Try.f46.ntmps (rf0 Try.f46 0) srchS.lc :=
 loop_good tok (ConL.ok (.cons (ConL.one edge_good) (.cons (ConL.one push_good) .nil))) ⟨rfl, rfl, rfl⟩ enumIt_good (by decide +kernel) srch_loop
def infL (n k : Nat) : List Int := (List.range n).map fun v => if v < k then INF else 0
theorem infL_len (n k : Nat) : (infL n k).length = n := by simp [infL]
theorem infL_zero (n : Nat) : infL n 0 = List.replicate n 0 := by
 apply List.ext_getElem (by simp [infL])
 intro i h1 h2
 simp [infL]
theorem infL_succ {n k : Nat} (hk : k < n) : infL n (k + 1) = (infL n k).set k INF := by
 have := map_range_set (g := fun i => if i < k + 1 then INF else 0) (f := fun i => if i < k then INF else 0) hk (fun i hi => by
  by_cases h : i < k
  ·rw [if_pos h, if_pos (by omega)]
  ·rw [if_neg h, if_neg (by omega)])
 rw [if_pos (by omega)] at this
 exact this
theorem initL_len (n : Nat) (S : Nat -> Bool) : (initL n S).length = n := by simp [initL]
theorem infL_full (n : Nat) : infL n n = initL n (isSrc []) := by
 unfold infL initL
 apply List.map_congr_left
 intro i hi
 rw [List.mem_range] at hi
 rw [if_pos hi]; rfl
theorem isSrc_snoc (l : List Int) (x : Int) (v : Nat) : isSrc (l ++ [x]) v = (isSrc l v || (x == (v : Int))) := by simp [isSrc, List.any_append]
theorem initL_congr {n : Nat} {S S' : Nat -> Bool} (h : ∀ v, v < n -> S v = S' v) : initL n S = initL n S' := by
 unfold initL
 apply List.map_congr_left
 intro i hi
 rw [h i (List.mem_range.1 hi)]
theorem init_same {n k : Nat} {l : List Int} (hk : k < l.length) (h : ¬ (0 <= l.getD k default /\ l.getD k default < n) ∨ isSrc (l.take k) (l.getD k default).toNat = true) : initL n (isSrc (l.take (k + 1))) = initL n (isSrc (l.take k)) := by
 rw [take_succ_getD (d := default) hk]
 apply initL_congr
 intro v hv
 rw [isSrc_snoc]
 cases hx : (l.getD k default == (v : Int)) with
 | false => simp
 | true =>
  have e : l.getD k default = (v : Int) := by simpa using hx
  rcases h with h | h
  ·omega
  ·rw [e, Int.toNat_natCast] at h; simp [h]
theorem init_more {n k : Nat} {l : List Int} (hk : k < l.length) (h : 0 <= l.getD k default /\ l.getD k default < n) : initL n (isSrc (l.take (k + 1))) = (initL n (isSrc (l.take k))).set (l.getD k default).toNat 0 := by
 rw [take_succ_getD (d := default) hk]
 obtain ⟨u, hu⟩ : ∃ u : Nat, l.getD k default = u := ⟨(l.getD k default).toNat, by omega⟩
 rw [hu] at h ⊢
 rw [Int.toNat_natCast]
 have := map_range_set (n := n) (k := u) (f := fun v => if isSrc (l.take k) v then 0 else INF) (g := fun v => if isSrc (l.take k ++ [(u : Int)]) v then 0 else INF) (by omega) (fun i hi => by
  rw [isSrc_snoc]
  have : ((u : Int) == (i : Int)) = false := by simp; omega
  rw [this, Bool.or_false])
 rw [isSrc_snoc] at this
 simp only [BEq.rfl, Bool.or_true, if_true] at this
 exact this
structure II (n : Nat) (l : List Int) (q : List Int) : Prop where
 code : ∀ c ∈ q, ∃ v : Nat, c = (v : Int) /\ v < n /\ isSrc l v = true
 all : ∀ v : Nat, v < n -> isSrc l v = true -> (v : Int) ∈ q
 pot : q.length + psi n (initL n (isSrc l)) <= n * capC
theorem sum_le {n : Nat} {f : Nat -> Int} {c : Int} (h : ∀ v, v < n -> f v <= c) : ((List.range n).map f).sum <= n * c := by
 induction n with
 | zero => simp
 | succ n ih =>
  rw [List.range_succ, List.map_append, List.sum_append]
  have := ih (fun v hv => h v (by omega))
  have := h n (by omega)
  simp only [List.map_cons, List.map_nil, List.sum_cons, List.sum_nil]
  rw [Int.natCast_succ, Int.add_mul]; omega
theorem II.zero (n : Nat) : II n [] [] := by
 refine ⟨fun c h => (by cases h), fun v _ h => (by simp [isSrc] at h), ?_⟩
 have := sum_le (n := n) (f := fun v => min (at0 (initL n (isSrc [])) v) capC) (c := capC) (fun v _ => by omega)
 show ((0 : Nat) : Int) + psi n (initL n (isSrc [])) <= n * capC
 unfold psi; omega
theorem II.same {n k : Nat} {l q : List Int} (I : II n (l.take k) q) (hk : k < l.length) (h : ¬ (0 <= l.getD k default /\ l.getD k default < n) ∨ isSrc (l.take k) (l.getD k default).toNat = true) : II n (l.take (k + 1)) q := by
 have e : ∀ v : Nat, v < n -> isSrc (l.take (k + 1)) v = isSrc (l.take k) v := by
  intro v hv
  rw [take_succ_getD (d := default) hk, isSrc_snoc]
  cases hx : (l.getD k default == (v : Int)) with
  | false => simp
  | true =>
   have e : l.getD k default = (v : Int) := by simpa using hx
   rcases h with h | h
   ·omega
   ·rw [e, Int.toNat_natCast] at h; simp [h]
 refine ⟨fun c hc => ?_, fun v hv hs => I.all v hv (by rw [<- e v hv]; exact hs), by rw [init_same hk h]; exact I.pot⟩
 obtain ⟨v, h1, h2, h3⟩ := I.code c hc
 exact ⟨v, h1, h2, by rw [e v h2]; exact h3⟩
theorem II.push {n k : Nat} {l q : List Int} (I : II n (l.take k) q) (hk : k < l.length) (h : 0 <= l.getD k default /\ l.getD k default < n) (hne : at0 (initL n (isSrc (l.take k))) (l.getD k default).toNat ≠ 0) : II n (l.take (k + 1)) (pushF q (0 * 4096 + l.getD k default)) := by
 obtain ⟨u, hu⟩ : ∃ u : Nat, l.getD k default = u := ⟨(l.getD k default).toNat, by omega⟩
 have hm := init_more hk h
 have hs := take_succ_getD (d := default) hk
 rw [hu] at h hne hm hs ⊢
 rw [Int.toNat_natCast] at hne hm
 have hun : u < n := by omega
 rw [initL_at hun] at hne
 have hns : isSrc (l.take k) u = false := by
  cases hx : isSrc (l.take k) u with
  | false => rfl
  | true => rw [hx] at hne; simp at hne
 refine ⟨fun c hc => ?_, fun v hv hv2 => ?_, ?_⟩
 ·rcases pushF_mem.1 hc with hc | rfl
  ·obtain ⟨v, h1, h2, h3⟩ := I.code c hc
   exact ⟨v, h1, h2, by rw [hs, isSrc_snoc, h3]; rfl⟩
  ·exact ⟨u, by omega, hun, by rw [hs, isSrc_snoc]; simp⟩
 ·rw [pushF_mem]
  rw [hs, isSrc_snoc] at hv2
  cases hx : isSrc (l.take k) v with
  | true => exact .inl (I.all v hv hx)
  | false =>
   rw [hx, Bool.false_or] at hv2
   have : (u : Int) = (v : Int) := by simpa using hv2
   right; omega
 ·rw [hm, pushF_len]
  have h1 : at0 (initL n (isSrc (l.take k))) u = INF := by rw [initL_at hun, hns]; rfl
  have := psi_set (d := initL n (isSrc (l.take k))) (x := 0) (initL_len _ _) hun (by rw [h1]; decide) (by decide)
  have := I.pot
  omega
theorem II.mi {N : WNet} {l q : List Int} (hn : N.n <= 12) (I : II N.n l q) : MI N (fun v => isSrc l v = true) (initL N.n (isSrc l)) q := by
 refine ⟨⟨initL_rlx _, fun v hv h => ?_, fun c hc => ?_⟩, fun u hu h => ?_, ?_⟩
 ·have := cnt_pos hv h
  rw [initL_at hv] at h ⊢
  split
  ·have : 0 <= ((cnt N.n (initL N.n (isSrc l)) : Nat) - 1 : Int) * 1048576 := Int.mul_nonneg (by omega) (by decide)
   omega
  ·rename_i q; rw [if_neg q] at h; exact absurd h (Int.lt_irrefl _)
 ·obtain ⟨v, h1, h2, h3⟩ := I.code c hc
  refine ⟨0, v, by omega, h2, ?_, by decide⟩
  rw [initL_at h2, if_pos h3]; exact Int.le_refl _
 ·rw [initL_at hu] at h ⊢
  split at h
  ·rename_i q; left; rw [if_pos q]
   have := I.all u hu q
   rwa [Int.zero_mul, Int.zero_add]
  ·exact absurd h (Int.lt_irrefl _)
 ·have := I.pot
  have h2 : (N.n : Int) * capC <= 12 * capC := Int.mul_le_mul_of_nonneg_right (by omega) (by decide)
  omega
structure SXok (x : SX) : Prop where
 g : GOk x.g
 n : x.g.n <= 12
 w : WsOk x.g x.ws
 e : x.ends.length <= 1048576
def SX.N (x : SX) : WNet := netG x.g x.ws x.fwd
def srchC : CT where
 X := SX
 pre := SXok
 args := fun x => [.p 100000 0 0, .sl 100001 0 x.g.es.length, .sl 100002 0 x.ends.length, .b x.fwd]
 g0 := fun x => graphH x.g 100000 ++ [(100001, .rows .bor k1 x.g.es.length (encL encI x.ws)), (100002, .rows .bor k1 x.ends.length (encL encI x.ends))]
 res := fun x => .sl 1 0 x.g.n
 g1 := fun x => [(1, .rows .own k1 x.g.n (encL encI (distF x.N (isSrc x.ends))))]
structure IQ where
 k : Nat
 q : List Int
structure DQ where
 d : List Int
 q : List Int
def srchI (x : SX) (id : Nat) : Option Inv := match id with
 | 0 => some { X := Nat, ok := fun k => k <= x.g.n, fr := fun k => [(26, .i .i64 k)], hp := fun k => [(23, .rows .own k1 x.g.n (encL encI (infL x.g.n k)))], me := fun k => x.g.n - k }
 | 2 => some { X := IQ, ok := fun s => s.k <= x.ends.length /\ II x.g.n (x.ends.take s.k) s.q, fr := fun s => [(35, .i .i64 s.k)],
               hp := fun s => [(23, .rows .own k1 x.g.n (encL encI (initL x.g.n (isSrc (x.ends.take s.k))))), (11, .one .own [.sl 60 0 s.q.length]), (60, .rows .own k1 s.q.length (encL encI s.q))], me := fun s => x.ends.length - s.k }
 | 4 => some { X := DQ, ok := fun s => MI x.N (fun v => isSrc x.ends v = true) s.d s.q, fr := fun s => [],
               hp := fun s => [(23, .rows .own k1 x.g.n (encL encI s.d)), (11, .one .own [.sl 60 0 s.q.length]), (60, .rows .own k1 s.q.length (encL encI s.q))], me := fun s => (s.q.length + psi x.g.n s.d).toNat }
 | _ => none
def cfgSS : Cfg := ⟨T, [], [(52, .one nodesC), (53, .one isNodeC), (54, .one pushC), (57, .one popC), (56, .one (outC true)), (55, .one (outC false))], noInv, 21, { lps := [(76, srchS.lc)] }⟩
theorem conSS : ConOk Try.prog cfgSS := ConL.ok (.cons (ConL.one nodes_good) (.cons (ConL.one isNode_good) (.cons (ConL.one push_good) (.cons (ConL.one pop_good) (.cons (ConL.one out_good) (.cons (ConL.one in_good) .nil))))))
def srchSL (x : SX) (s : DQ) : SLx := ⟨x.g, x.ws, x.fwd, s.d, popF s.q, s.q.getD 0 default / 4096, (s.q.getD 0 default % 4096).toNat⟩
theorem same1 {n k : Nat} {l : List Int} (h : 0 <= l.getD k default /\ l.getD k default < n) (h2 : ¬ (initL n (isSrc (l.take k))).getD (0 + (l.getD k default).toNat) default ≠ 0) : isSrc (l.take k) (l.getD k default).toNat = true := by
 have hu : (l.getD k default).toNat < n := by omega
 have := initL_at (S := isSrc (l.take k)) hu
 unfold at0 at this
 rw [Nat.zero_add, this] at h2
 cases hx : isSrc (l.take k) (l.getD k default).toNat with
 | true => rfl
 | false => rw [hx] at h2; exact absurd (by decide) h2
theorem SXok.ok {x : SX} (h : SXok x) : x.N.Ok := netG_ok h.g h.w x.fwd
theorem mi_len {x : SX} {d q : List Int} (I : MI x.N (fun v => isSrc x.ends v = true) d q) : q.length <= 150994956 := by
 have h1 := I.pot
 have h2 := psi_nn I.rlx.nn
 unfold capC at h1
 omega
theorem mi_top {x : SX} (hx : SXok x) {d q : List Int} (I : MI x.N (fun v => isSrc x.ends v = true) d q) (hq : 0 < (q.length : Int)) :
  ∃ (y : Int) (v : Nat), q.getD 0 default = y * 4096 + v /\ q.getD 0 default / 4096 = y /\ q.getD 0 default % 4096 = v /\ v < x.g.n /\ at0 d v <= y /\ 0 <= y /\ y <= 12582912 :=
 I.pop (by show x.g.n <= 4096; have := hx.n; omega) (by omega)
theorem mi_rng {x : SX} (hx : SXok x) {d q : List Int} (I : MI x.N (fun v => isSrc x.ends v = true) d q) (hq : 0 < (q.length : Int)) :
  0 <= q.getD 0 default /\ q.getD 0 default <= 9223372036854775807 /\ 0 <= q.getD 0 default % 4096 /\ q.getD 0 default % 4096 < x.g.n := by
 obtain ⟨y, v, h1, h2, h3, h4, h5, h6, h7⟩ := mi_top hx I hq
 have := hx.n
 omega
theorem mi_skip {x : SX} (hx : SXok x) {d q : List Int} (I : MI x.N (fun v => isSrc x.ends v = true) d q) (hq : 0 < (q.length : Int)) (h : d.getD (0 + (q.getD 0 default % 4096).toNat) default < q.getD 0 default / 4096) :
  MI x.N (fun v => isSrc x.ends v = true) d (popF q) /\ ((popF q).length + psi x.g.n d).toNat < (q.length + psi x.g.n d).toNat := by
 obtain ⟨y, v, h1, h2, h3, h4, h5, h6, h7⟩ := mi_top hx I hq
 rw [h2, h3, Nat.zero_add, Int.toNat_natCast] at h
 refine ⟨I.skip (by omega) h1 h4 (by show x.g.n <= 4096; have := hx.n; omega) h, ?_⟩
 have : 0 <= psi x.g.n d := psi_nn I.rlx.nn
 rw [popF_len]; omega
theorem mi_slok {x : SX} (hx : SXok x) {s : DQ} (I : MI x.N (fun v => isSrc x.ends v = true) s.d s.q) (hq : 0 < (s.q.length : Int)) : SLok (srchSL x s) := by
 obtain ⟨y, v, h1, h2, h3, h4, h5, h6, h7⟩ := mi_top hx I hq
 have := mi_len I
 refine ⟨hx.g, hx.w, I.rlx.len, ?_, ?_, ?_⟩
 ·show (popF s.q).length <= 1000000000
  rw [popF_len]; omega
 ·show 0 <= s.q.getD 0 default / 4096 /\ s.q.getD 0 default / 4096 <= 1099511627776
  omega
 ·show (s.q.getD 0 default % 4096).toNat < x.g.n
  omega
theorem mi_step {x : SX} (hx : SXok x) {s : DQ} (I : MI x.N (fun v => isSrc x.ends v = true) s.d s.q) (hq : 0 < (s.q.length : Int)) (h : ¬ s.d.getD (0 + (s.q.getD 0 default % 4096).toNat) default < s.q.getD 0 default / 4096) :
  MI x.N (fun v => isSrc x.ends v = true) (dqAt (srchSL x s) (srchSL x s).m).1 (dqAt (srchSL x s) (srchSL x s).m).2 /\
   ((dqAt (srchSL x s) (srchSL x s).m).2.length + psi x.g.n (dqAt (srchSL x s) (srchSL x s).m).1).toNat < (s.q.length + psi x.g.n s.d).toNat := by
 obtain ⟨y, v, h1, h2, h3, h4, h5, h6, h7⟩ := mi_top hx I hq
 rw [h2, h3, Nat.zero_add, Int.toNat_natCast] at h
 have hN := hx.ok
 have ey : y = at0 s.d v := by unfold at0 at *; omega
 have hfin : at0 s.d v < INF := by rw [<- ey]; unfold INF; omega
 have hn12 : x.N.n <= 12 := hx.n
 have ht := I.take (by omega) (v := v) (by rw [h1, ey]) h4 (by omega)
 have hws : ∀ i, i < x.N.m -> x.N.w i = INF ∨ x.N.w i <= 1048576 := fun i hi => (hx.w.ok i hi).imp id (fun q => q.2)
 have hfold : dqAt (srchSL x s) (srchSL x s).m = (adjN x.g x.fwd v).foldl (stepE x.N (at0 s.d v)) (s.d, popF s.q) := by
  have e1 : (srchSL x s).node = v := by show (s.q.getD 0 default % 4096).toNat = v; omega
  have e2 : (srchSL x s).dist = at0 s.d v := by show s.q.getD 0 default / 4096 = _; omega
  unfold dqAt SLx.m
  rw [List.take_length, e1, e2]
  rfl
 have hst := ht.steps hN hn12 hws hfin (adjN x.g x.fwd v) (fun _ => False) (s.d, popF s.q) (fun i hi => by
  have := adjN_mem.1 hi
  refine ⟨this.1, ?_⟩
  show (cond x.fwd (x.g.es.getD i default).f (x.g.es.getD i default).t).toNat = v
  omega)
 rw [<- hfold] at hst
 have hpot := I.pot
 have hps := psi_nn I.rlx.nn
 refine ⟨hst.done' hN (fun i hi hs => .inr ?_) (by omega), ?_⟩
 ·rw [adjN_mem]
  refine ⟨hi, ?_⟩
  have h8 := hx.g.e i hi
  unfold edOk at h8
  have hs : (cond x.fwd (x.g.es.getD i default).f (x.g.es.getD i default).t).toNat = v := hs
  cases hf : x.fwd <;> rw [hf] at hs <;> simp only [cond] at hs ⊢ <;> omega
 ·have h8 := hst.pot
  have h9 : 0 <= psi x.g.n (dqAt (srchSL x s) (srchSL x s).m).1 := psi_nn hst.rlx.nn
  have h8' : ((dqAt (srchSL x s) (srchSL x s).m).2.length : Int) + psi x.g.n (dqAt (srchSL x s) (srchSL x s).m).1 <= s.q.length - 1 + psi x.g.n s.d := h8
  omega
theorem mi_end {x : SX} (hx : SXok x) {d q : List Int} (I : MI x.N (fun v => isSrc x.ends v = true) d q) (hq : ¬ 0 < (q.length : Int)) : d = distF x.N (isSrc x.ends) :=
 distF_eq hx.ok (I.sol hx.ok (by cases q with | nil => rfl | cons a r => simp at hq))
theorem ii_end {x : SX} (hx : SXok x) {s : IQ} (h : s.k <= x.ends.length /\ II x.g.n (x.ends.take s.k) s.q) (h2 : ¬ (s.k : Int) < x.ends.length) : MI x.N (fun v => isSrc x.ends v = true) (initL x.g.n (isSrc (x.ends.take s.k))) s.q := by
 have e : x.ends.take s.k = x.ends := List.take_of_length_le (by omega)
 rw [e] at h ⊢
 exact II.mi (N := x.N) hx.n h.2
theorem ii_len {n k : Nat} {l q : List Int} (hn : n <= 12) (I : II n (l.take k) q) : q.length < 1073741824 := by
 have h1 := I.pot
 have h2 : 0 <= psi n (initL n (isSrc (l.take k))) := psi_nn fun v hv => by rw [initL_at hv]; split <;> decide
 have h3 : (n : Int) * capC <= 12 * capC := Int.mul_le_mul_of_nonneg_right (by omega) (by decide)
 unfold capC at *
 omega
set_option maxRecDepth 100000 in
theorem srch_keeps : Keeps cfgSS Try.f46 srchC srchI := Eq.mp (show ((∀ x1 : SX, ((SXok x1)-> (∃ x3 : Gr, (True/\(((0=0 /\ 0=0)/\True)/\(((RLe 1 1/\(RowsEq [.sl [.int .i64, .int .i64, .int .i64], .sl [.sl [.int .i64]], .sl [.sl [.int .i64]]] 1 (encG x1.g) (encG x3)))/\True)/\((((0 : Int) <= (x3.n : Int))/\(((x3.n : Int) <= (x3.n : Int))/\((x3.n : Int) <= (↑(1073741824 : Nat) : Int))))/\(∃ x4 : Nat, (((x4 <= x1.g.n)/\(((0 = (x4 : Int))/\(((↑(Int.toNat (x3.n : Int)) : Int) = (↑(Int.toNat (x3.n : Int)) : Int))/\((0=0 /\ 0=0)/\(True/\((0=0 /\ 0=0)/\((0=0 /\ 0=0)/\((0=0 /\ 0=0)/\((0=0 /\ 0=0)/\((0=0 /\ x1.g.es.length = x1.g.es.length)/\((0=0 /\ x1.ends.length = x1.ends.length)/\(x1.fwd = x1.fwd/\True)))))))))))/\(((RLe x1.g.n (Int.toNat (x3.n : Int)))/\(RowsEq [.int .i64] x1.g.n (fun (x j : Nat) => zRow [.int .i64] j) (encL encI (infL x1.g.n x4))))/\(((0=0/\(Int.toNat (x3.n : Int) = Int.toNat (x3.n : Int)))/\True)/\((x1.fwd = x1.fwd/\True)/\(((0=0 /\ x1.g.es.length = x1.g.es.length)/\True)/\(((0=0 /\ 0=0)/\True)/\((RLe 1 1/\(RowsEq [.sl [.int .i64, .int .i64, .int .i64], .sl [.sl [.int .i64]], .sl [.sl [.int .i64]]] 1 (encG x1.g) (encG x1.g)))/\(((RLe x1.g.es.length x1.g.es.length)/\(RowsEq [.int .i64] x1.g.es.length (encL encI x1.ws) (encL encI x1.ws)))/\(((RLe x1.ends.length x1.ends.length)/\(RowsEq [.int .i64] x1.ends.length (encL encI x1.ends) (encL encI x1.ends)))/\True))))))))))/\(∀ x5 : Nat, ((x5 <= x1.g.n)-> (((decide ((x5 : Int) < (↑(Int.toNat (x3.n : Int)) : Int)) = true)-> ((((0 : Int) <= (x5 : Int))/\((x5 : Int) < (↑(Int.toNat (x3.n : Int)) : Int)))/\(((0 + Int.toNat (x5 : Int) < x1.g.n)/\(True/\True))/\((((-9223372036854775808 : Int) <= (x5 : Int) + 1)/\((x5 : Int) + 1 <= (9223372036854775807 : Int)))/\(∃ x8 : Nat, ((x1.g.n - x8 < x1.g.n - x5)/\((x8 <= x1.g.n)/\((((x5 : Int) + 1 = (x8 : Int))/\(((↑(Int.toNat (x3.n : Int)) : Int) = (↑(Int.toNat (x3.n : Int)) : Int))/\((0=0 /\ 0=0)/\(True/\((0=0 /\ 0=0)/\((0=0 /\ 0=0)/\((0=0 /\ 0=0)/\((0=0 /\ 0=0)/\((0=0 /\ x1.g.es.length = x1.g.es.length)/\((0=0 /\ x1.ends.length = x1.ends.length)/\(x1.fwd = x1.fwd/\True)))))))))))/\(((RLe x1.g.n x1.g.n)/\(RowsEq [.int .i64] x1.g.n (setRow (encL encI (infL x1.g.n x5)) (0 + Int.toNat (x5 : Int)) 0 (D.i 4611686018427387904 :: @List.nil D)) (encL encI (infL x1.g.n x8))))/\(((0=0/\(Int.toNat (x3.n : Int) = Int.toNat (x3.n : Int)))/\True)/\((x1.fwd = x1.fwd/\True)/\(((0=0 /\ x1.g.es.length = x1.g.es.length)/\True)/\(((0=0 /\ 0=0)/\True)/\((RLe 1 1/\(RowsEq [.sl [.int .i64, .int .i64, .int .i64], .sl [.sl [.int .i64]], .sl [.sl [.int .i64]]] 1 (encG x1.g) (encG x1.g)))/\(((RLe x1.g.es.length x1.g.es.length)/\(RowsEq [.int .i64] x1.g.es.length (encL encI x1.ws) (encL encI x1.ws)))/\(((RLe x1.ends.length x1.ends.length)/\(RowsEq [.int .i64] x1.ends.length (encL encI x1.ends) (encL encI x1.ends)))/\True))))))))))))))))/\((decide ((x5 : Int) < (↑(Int.toNat (x3.n : Int)) : Int)) = false)-> (∃ x10 : IQ, ((((x10.k <= x1.ends.length)/\(II x1.g.n (List.take x10.k x1.ends) x10.q))/\(((0 = (x10.k : Int))/\(((x1.ends.length : Int) = (x1.ends.length : Int))/\((0=0 /\ x1.ends.length = x1.ends.length)/\((0=0 /\ 0=0)/\((0=0 /\ 0=0)/\(True/\((0=0 /\ 0=0)/\((0=0 /\ 0=0)/\((0=0 /\ 0=0)/\((0=0 /\ 0=0)/\((0=0 /\ x1.g.es.length = x1.g.es.length)/\((0=0 /\ x1.ends.length = x1.ends.length)/\(x1.fwd = x1.fwd/\True)))))))))))))/\(((RLe x1.g.n x1.g.n)/\(RowsEq [.int .i64] x1.g.n (encL encI (infL x1.g.n x5)) (encL encI (initL x1.g.n (isSrc (List.take x10.k x1.ends))))))/\(((True/\(0=0/\(x10.q.length = (0 : Nat))))/\True)/\((x10.q.length = (0 : Nat))/\(((0=0/\(Int.toNat (x3.n : Int) = Int.toNat (x3.n : Int)))/\True)/\((x1.fwd = x1.fwd/\True)/\(((0=0 /\ x1.g.es.length = x1.g.es.length)/\True)/\(((0=0 /\ 0=0)/\True)/\((RLe 1 1/\(RowsEq [.sl [.int .i64, .int .i64, .int .i64], .sl [.sl [.int .i64]], .sl [.sl [.int .i64]]] 1 (encG x1.g) (encG x1.g)))/\(((RLe x1.g.es.length x1.g.es.length)/\(RowsEq [.int .i64] x1.g.es.length (encL encI x1.ws) (encL encI x1.ws)))/\(((RLe x1.ends.length x1.ends.length)/\(RowsEq [.int .i64] x1.ends.length (encL encI x1.ends) (encL encI x1.ends)))/\True))))))))))))/\(∀ x11 : IQ, ((x11.k <= x1.ends.length /\ II x1.g.n (List.take x11.k x1.ends) x11.q)-> (((decide ((x11.k : Int) < (x1.ends.length : Int)) = true)-> ((((0 : Int) <= (x11.k : Int))/\((x11.k : Int) < (x1.ends.length : Int)))/\((0 + Int.toNat (x11.k : Int) < x1.ends.length)/\(∃ x14 : GIx, (True/\(((0=0 /\ 0=0)/\((x1.ends.getD (0 + Int.toNat (x11.k : Int)) default = x14.i)/\True))/\(((RLe 1 1/\(RowsEq [.sl [.int .i64, .int .i64, .int .i64], .sl [.sl [.int .i64]], .sl [.sl [.int .i64]]] 1 (encG x1.g) (encG x14.g)))/\True)/\(((decide ((0 : Int) <= x14.i /\ x14.i < (x14.g.n : Int)) = true)-> ((((0 : Int) <= x1.ends.getD (0 + Int.toNat (x11.k : Int)) default)/\(x1.ends.getD (0 + Int.toNat (x11.k : Int)) default < (↑(Int.toNat (x3.n : Int)) : Int)))/\((0 + Int.toNat (x1.ends.getD (0 + Int.toNat (x11.k : Int)) default) < x1.g.n)/\(((decide ((initL x1.g.n (isSrc (List.take x11.k x1.ends))).getD (0 + Int.toNat (x1.ends.getD (0 + Int.toNat (x11.k : Int)) default)) default ≠ (0 : Int)) = true)-> ((((0 : Int) <= x1.ends.getD (0 + Int.toNat (x11.k : Int)) default)/\(x1.ends.getD (0 + Int.toNat (x11.k : Int)) default < (↑(Int.toNat (x3.n : Int)) : Int)))/\(((0 + Int.toNat (x1.ends.getD (0 + Int.toNat (x11.k : Int)) default) < x1.g.n)/\(True/\True))/\(∃ x17 : QX, (((x17.q.length < (1073741824 : Nat))/\(((0 : Int) <= x17.d)/\((x17.d <= (1125899906842624 : Int))/\(((0 : Int) <= x17.v)/\(x17.v < (4096 : Int))))))/\(((0=0 /\ 0=0)/\(0 = x17.d/\((x1.ends.getD (0 + Int.toNat (x11.k : Int)) default = x17.v)/\True)))/\((((0=0 /\ x11.q.length = x17.q.length)/\True)/\(((RLe x17.q.length x11.q.length)/\(RowsEq [.int .i64] x17.q.length (encL encI x11.q) (encL encI x17.q)))/\True))/\((((-9223372036854775808 : Int) <= (x11.k : Int) + 1)/\((x11.k : Int) + 1 <= (9223372036854775807 : Int)))/\(∃ x18 : IQ, ((x1.ends.length - x18.k < x1.ends.length - x11.k)/\(((x18.k <= x1.ends.length)/\(II x1.g.n (List.take x18.k x1.ends) x18.q))/\((((x11.k : Int) + 1 = (x18.k : Int))/\(((x1.ends.length : Int) = (x1.ends.length : Int))/\((0=0 /\ x1.ends.length = x1.ends.length)/\((0=0 /\ 0=0)/\((0=0 /\ 0=0)/\(True/\((0=0 /\ 0=0)/\((0=0 /\ 0=0)/\((0=0 /\ 0=0)/\((0=0 /\ 0=0)/\((0=0 /\ x1.g.es.length = x1.g.es.length)/\((0=0 /\ x1.ends.length = x1.ends.length)/\(x1.fwd = x1.fwd/\True)))))))))))))/\(((RLe x1.g.n x1.g.n)/\(RowsEq [.int .i64] x1.g.n (setRow (encL encI (initL x1.g.n (isSrc (List.take x11.k x1.ends)))) (0 + Int.toNat (x1.ends.getD (0 + Int.toNat (x11.k : Int)) default)) 0 (D.i 0 :: @List.nil D)) (encL encI (initL x1.g.n (isSrc (List.take x18.k x1.ends))))))/\(((0=0/\(x17.q.length + (1 : Nat) = x18.q.length))/\True)/\(((RLe x18.q.length (x17.q.length + (1 : Nat)))/\(RowsEq [.int .i64] x18.q.length (encL encI (pushF x17.q (x17.d * 4096 + x17.v))) (encL encI x18.q)))/\(((0=0/\(Int.toNat (x3.n : Int) = Int.toNat (x3.n : Int)))/\True)/\((x1.fwd = x1.fwd/\True)/\(((0=0 /\ x1.g.es.length = x1.g.es.length)/\True)/\(((0=0 /\ 0=0)/\True)/\((RLe 1 1/\(RowsEq [.sl [.int .i64, .int .i64, .int .i64], .sl [.sl [.int .i64]], .sl [.sl [.int .i64]]] 1 (encG x1.g) (encG x1.g)))/\(((RLe x1.g.es.length x1.g.es.length)/\(RowsEq [.int .i64] x1.g.es.length (encL encI x1.ws) (encL encI x1.ws)))/\(((RLe x1.ends.length x1.ends.length)/\(RowsEq [.int .i64] x1.ends.length (encL encI x1.ends) (encL encI x1.ends)))/\True))))))))))))))))))))))/\((decide ((initL x1.g.n (isSrc (List.take x11.k x1.ends))).getD (0 + Int.toNat (x1.ends.getD (0 + Int.toNat (x11.k : Int)) default)) default ≠ (0 : Int)) = false)-> ((((-9223372036854775808 : Int) <= (x11.k : Int) + 1)/\((x11.k : Int) + 1 <= (9223372036854775807 : Int)))/\(∃ x20 : IQ, ((x1.ends.length - x20.k < x1.ends.length - x11.k)/\(((x20.k <= x1.ends.length)/\(II x1.g.n (List.take x20.k x1.ends) x20.q))/\((((x11.k : Int) + 1 = (x20.k : Int))/\(((x1.ends.length : Int) = (x1.ends.length : Int))/\((0=0 /\ x1.ends.length = x1.ends.length)/\((0=0 /\ 0=0)/\((0=0 /\ 0=0)/\(True/\((0=0 /\ 0=0)/\((0=0 /\ 0=0)/\((0=0 /\ 0=0)/\((0=0 /\ 0=0)/\((0=0 /\ x1.g.es.length = x1.g.es.length)/\((0=0 /\ x1.ends.length = x1.ends.length)/\(x1.fwd = x1.fwd/\True)))))))))))))/\(((RLe x1.g.n x1.g.n)/\(RowsEq [.int .i64] x1.g.n (encL encI (initL x1.g.n (isSrc (List.take x11.k x1.ends)))) (encL encI (initL x1.g.n (isSrc (List.take x20.k x1.ends))))))/\(((0=0 /\ x11.q.length = x20.q.length)/\True)/\(((RLe x20.q.length x11.q.length)/\(RowsEq [.int .i64] x20.q.length (encL encI x11.q) (encL encI x20.q)))/\(((0=0/\(Int.toNat (x3.n : Int) = Int.toNat (x3.n : Int)))/\True)/\((x1.fwd = x1.fwd/\True)/\(((0=0 /\ x1.g.es.length = x1.g.es.length)/\True)/\(((0=0 /\ 0=0)/\True)/\((RLe 1 1/\(RowsEq [.sl [.int .i64, .int .i64, .int .i64], .sl [.sl [.int .i64]], .sl [.sl [.int .i64]]] 1 (encG x1.g) (encG x1.g)))/\(((RLe x1.g.es.length x1.g.es.length)/\(RowsEq [.int .i64] x1.g.es.length (encL encI x1.ws) (encL encI x1.ws)))/\(((RLe x1.ends.length x1.ends.length)/\(RowsEq [.int .i64] x1.ends.length (encL encI x1.ends) (encL encI x1.ends)))/\True))))))))))))))))))))/\((decide ((0 : Int) <= x14.i /\ x14.i < (x14.g.n : Int)) = false)-> ((((-9223372036854775808 : Int) <= (x11.k : Int) + 1)/\((x11.k : Int) + 1 <= (9223372036854775807 : Int)))/\(∃ x22 : IQ, ((x1.ends.length - x22.k < x1.ends.length - x11.k)/\(((x22.k <= x1.ends.length)/\(II x1.g.n (List.take x22.k x1.ends) x22.q))/\((((x11.k : Int) + 1 = (x22.k : Int))/\(((x1.ends.length : Int) = (x1.ends.length : Int))/\((0=0 /\ x1.ends.length = x1.ends.length)/\((0=0 /\ 0=0)/\((0=0 /\ 0=0)/\(True/\((0=0 /\ 0=0)/\((0=0 /\ 0=0)/\((0=0 /\ 0=0)/\((0=0 /\ 0=0)/\((0=0 /\ x1.g.es.length = x1.g.es.length)/\((0=0 /\ x1.ends.length = x1.ends.length)/\(x1.fwd = x1.fwd/\True)))))))))))))/\(((RLe x1.g.n x1.g.n)/\(RowsEq [.int .i64] x1.g.n (encL encI (initL x1.g.n (isSrc (List.take x11.k x1.ends)))) (encL encI (initL x1.g.n (isSrc (List.take x22.k x1.ends))))))/\(((0=0 /\ x11.q.length = x22.q.length)/\True)/\(((RLe x22.q.length x11.q.length)/\(RowsEq [.int .i64] x22.q.length (encL encI x11.q) (encL encI x22.q)))/\(((0=0/\(Int.toNat (x3.n : Int) = Int.toNat (x3.n : Int)))/\True)/\((x1.fwd = x1.fwd/\True)/\(((0=0 /\ x1.g.es.length = x1.g.es.length)/\True)/\(((0=0 /\ 0=0)/\True)/\((RLe 1 1/\(RowsEq [.sl [.int .i64, .int .i64, .int .i64], .sl [.sl [.int .i64]], .sl [.sl [.int .i64]]] 1 (encG x1.g) (encG x1.g)))/\(((RLe x1.g.es.length x1.g.es.length)/\(RowsEq [.int .i64] x1.g.es.length (encL encI x1.ws) (encL encI x1.ws)))/\(((RLe x1.ends.length x1.ends.length)/\(RowsEq [.int .i64] x1.ends.length (encL encI x1.ends) (encL encI x1.ends)))/\True))))))))))))))))))))))))/\((decide ((x11.k : Int) < (x1.ends.length : Int)) = false)-> ((x1.fwd = true -> (∃ x25 : DQ, (((MI (SX.N x1) (fun (v : Nat) => isSrc x1.ends v = true) x25.d x25.q)/\((((0=0 /\ 0=0)/\True)/\((0=0 /\ 0=0)/\((0=0 /\ 0=0)/\(True/\((0=0 /\ 0=0)/\((0=0 /\ 0=0)/\((0=0 /\ 0=0)/\((0=0 /\ 0=0)/\((0=0 /\ x1.g.es.length = x1.g.es.length)/\((0=0 /\ x1.ends.length = x1.ends.length)/\(x1.fwd = x1.fwd/\True)))))))))))/\(((RLe x1.g.n x1.g.n)/\(RowsEq [.int .i64] x1.g.n (encL encI (initL x1.g.n (isSrc (List.take x11.k x1.ends)))) (encL encI x25.d)))/\(((0=0 /\ x11.q.length = x25.q.length)/\True)/\(((RLe x25.q.length x11.q.length)/\(RowsEq [.int .i64] x25.q.length (encL encI x11.q) (encL encI x25.q)))/\(((0=0/\(Int.toNat (x3.n : Int) = Int.toNat (x3.n : Int)))/\True)/\((x1.fwd = x1.fwd/\True)/\(((0=0 /\ x1.g.es.length = x1.g.es.length)/\True)/\(((0=0 /\ 0=0)/\True)/\((RLe 1 1/\(RowsEq [.sl [.int .i64, .int .i64, .int .i64], .sl [.sl [.int .i64]], .sl [.sl [.int .i64]]] 1 (encG x1.g) (encG x1.g)))/\(((RLe x1.g.es.length x1.g.es.length)/\(RowsEq [.int .i64] x1.g.es.length (encL encI x1.ws) (encL encI x1.ws)))/\(((RLe x1.ends.length x1.ends.length)/\(RowsEq [.int .i64] x1.ends.length (encL encI x1.ends) (encL encI x1.ends)))/\True))))))))))))/\(∀ x26 : DQ, ((MI (SX.N x1) (fun (v : Nat) => isSrc x1.ends v = true) x26.d x26.q)-> (((decide (0 < (x26.q.length : Int)) = true)-> (∃ x29 : List Int, ((((1 : Nat) <= x29.length)/\((x29.length <= (1073741824 : Nat))/\(((0 : Int) <= x29.getD 0 default)/\(x29.getD 0 default <= (9223372036854775807 : Int)))))/\(((0=0 /\ 0=0)/\True)/\((((0=0 /\ x26.q.length = x29.length)/\True)/\(((RLe x29.length x26.q.length)/\(RowsEq [.int .i64] x29.length (encL encI x26.q) (encL encI x29)))/\True))/\((((0 : Int) <= x29.getD 0 default % 4096)/\(x29.getD 0 default % 4096 < (↑(Int.toNat (x3.n : Int)) : Int)))/\((0 + Int.toNat (x29.getD 0 default % 4096) < x1.g.n)/\(((decide (x26.d.getD (0 + Int.toNat (x29.getD 0 default % 4096)) default < x29.getD 0 default / 4096) = true)-> (∃ x31 : DQ, ((Int.toNat ((x31.q.length : Int) + psi x1.g.n x31.d) < Int.toNat ((x26.q.length : Int) + psi x1.g.n x26.d))/\((MI (SX.N x1) (fun (v : Nat) => isSrc x1.ends v = true) x31.d x31.q)/\((((0=0 /\ 0=0)/\True)/\((0=0 /\ 0=0)/\((0=0 /\ 0=0)/\(True/\((0=0 /\ 0=0)/\((0=0 /\ 0=0)/\((0=0 /\ 0=0)/\((0=0 /\ 0=0)/\((0=0 /\ x1.g.es.length = x1.g.es.length)/\((0=0 /\ x1.ends.length = x1.ends.length)/\(x1.fwd = x1.fwd/\True)))))))))))/\(((RLe x1.g.n x1.g.n)/\(RowsEq [.int .i64] x1.g.n (encL encI x26.d) (encL encI x31.d)))/\(((0=0/\(x29.length - (1 : Nat) = x31.q.length))/\True)/\(((RLe x31.q.length (x29.length - (1 : Nat)))/\(RowsEq [.int .i64] x31.q.length (encL encI (popF x29)) (encL encI x31.q)))/\(((0=0/\(Int.toNat (x3.n : Int) = Int.toNat (x3.n : Int)))/\True)/\((x1.fwd = x1.fwd/\True)/\(((0=0 /\ x1.g.es.length = x1.g.es.length)/\True)/\(((0=0 /\ 0=0)/\True)/\((RLe 1 1/\(RowsEq [.sl [.int .i64, .int .i64, .int .i64], .sl [.sl [.int .i64]], .sl [.sl [.int .i64]]] 1 (encG x1.g) (encG x1.g)))/\(((RLe x1.g.es.length x1.g.es.length)/\(RowsEq [.int .i64] x1.g.es.length (encL encI x1.ws) (encL encI x1.ws)))/\(((RLe x1.ends.length x1.ends.length)/\(RowsEq [.int .i64] x1.ends.length (encL encI x1.ends) (encL encI x1.ends)))/\True)))))))))))))))/\((decide (x26.d.getD (0 + Int.toNat (x29.getD 0 default % 4096)) default < x29.getD 0 default / 4096) = false)-> (∃ x33 : GIx, (True/\(((0=0 /\ 0=0)/\((x29.getD 0 default % 4096 = x33.i)/\True))/\(((RLe 1 1/\(RowsEq [.sl [.int .i64, .int .i64, .int .i64], .sl [.sl [.int .i64]], .sl [.sl [.int .i64]]] 1 (encG x1.g) (encG x33.g)))/\True)/\(∃ x34 : LS.X srchS, ((SLok x34)/\(((0=0 /\ 0=0)/\((0=0 /\ 0=0)/\((0=0 /\ 0=0)/\((0=0 /\ 0=0)/\((0=0 /\ 0=0)/\((0=0 /\ 0=0)/\(((0=0 /\ 0=0)/\((0=0 /\ 0=0)/\True))/\True)))))))/\((((0=0 /\ 0=0)/\True)/\((RLe 1 1/\(RowsEq [.sl [.int .i64, .int .i64, .int .i64], .sl [.sl [.int .i64]], .sl [.sl [.int .i64]]] 1 (encG x1.g) (encG (SLx.g x34))))/\(((0=0/\(x1.g.es.length = (SLx.g x34).es.length))/\True)/\(((RLe (SLx.g x34).es.length x1.g.es.length)/\(RowsEq [.int .i64] (SLx.g x34).es.length (encL encI x1.ws) (encL encI (SLx.ws x34))))/\(((x1.fwd = SLx.fwd x34)/\True)/\(((0=0/\(Int.toNat (x3.n : Int) = (SLx.g x34).n))/\True)/\(((RLe (SLx.g x34).n x1.g.n)/\(RowsEq [.int .i64] (SLx.g x34).n (encL encI x26.d) (encL encI (SLx.d x34))))/\(((0=0/\(x29.length - (1 : Nat) = (SLx.q x34).length))/\True)/\(((RLe (SLx.q x34).length (x29.length - (1 : Nat)))/\(RowsEq [.int .i64] (SLx.q x34).length (encL encI (popF x29)) (encL encI (SLx.q x34))))/\(((x29.getD 0 default / 4096 = SLx.dist x34)/\True)/\(((x33.i = (↑(SLx.node x34) : Int))/\True)/\(((0=0/\(x33.g.n = (SLx.g x34).n))/\True)/\(((RLe (SLx.g x34).n x33.g.n)/\(RowsEq [.sl [.int .i64]] (SLx.g x34).n (encLL (adjG x33.g true)) (encLL (adjG (SLx.g x34) (SLx.fwd x34)))))/\True)))))))))))))/\(∃ x35 : DQ, ((Int.toNat ((x35.q.length : Int) + psi x1.g.n x35.d) < Int.toNat ((x26.q.length : Int) + psi x1.g.n x26.d))/\((MI (SX.N x1) (fun (v : Nat) => isSrc x1.ends v = true) x35.d x35.q)/\((((0=0 /\ 0=0)/\True)/\((0=0 /\ 0=0)/\((0=0 /\ 0=0)/\(True/\((0=0 /\ 0=0)/\((0=0 /\ 0=0)/\((0=0 /\ 0=0)/\((0=0 /\ 0=0)/\((0=0 /\ x1.g.es.length = x1.g.es.length)/\((0=0 /\ x1.ends.length = x1.ends.length)/\(x1.fwd = x1.fwd/\True)))))))))))/\(((RLe x1.g.n (SLx.g x34).n)/\(RowsEq [.int .i64] x1.g.n (encL encI (Prod.fst (dqAt x34 (SLx.m x34)))) (encL encI x35.d)))/\(((0=0/\((Prod.snd (dqAt x34 (SLx.m x34))).length = x35.q.length))/\True)/\(((RLe x35.q.length (Prod.snd (dqAt x34 (SLx.m x34))).length)/\(RowsEq [.int .i64] x35.q.length (encL encI (Prod.snd (dqAt x34 (SLx.m x34)))) (encL encI x35.q)))/\(((0=0/\(Int.toNat (x3.n : Int) = Int.toNat (x3.n : Int)))/\True)/\((x1.fwd = x1.fwd/\True)/\(((0=0 /\ x1.g.es.length = x1.g.es.length)/\True)/\(((0=0 /\ 0=0)/\True)/\((RLe 1 1/\(RowsEq [.sl [.int .i64, .int .i64, .int .i64], .sl [.sl [.int .i64]], .sl [.sl [.int .i64]]] 1 (encG x1.g) (encG x1.g)))/\(((RLe x1.g.es.length x1.g.es.length)/\(RowsEq [.int .i64] x1.g.es.length (encL encI x1.ws) (encL encI x1.ws)))/\(((RLe x1.ends.length x1.ends.length)/\(RowsEq [.int .i64] x1.ends.length (encL encI x1.ends) (encL encI x1.ends)))/\True)))))))))))))))))))))))))))))))/\((decide (0 < (x26.q.length : Int)) = false)-> ((0=0/\(Int.toNat (x3.n : Int) = x1.g.n))/\(((RLe x1.g.n x1.g.n)/\(RowsEq [.int .i64] x1.g.n (encL encI x26.d) (encL encI (distF (SX.N x1) (isSrc x1.ends)))))/\True)))))))))/\(x1.fwd = false -> (∃ x38 : DQ, (((MI (SX.N x1) (fun (v : Nat) => isSrc x1.ends v = true) x38.d x38.q)/\((((0=0 /\ 0=0)/\True)/\((0=0 /\ 0=0)/\((0=0 /\ 0=0)/\(True/\((0=0 /\ 0=0)/\((0=0 /\ 0=0)/\((0=0 /\ 0=0)/\((0=0 /\ 0=0)/\((0=0 /\ x1.g.es.length = x1.g.es.length)/\((0=0 /\ x1.ends.length = x1.ends.length)/\(x1.fwd = x1.fwd/\True)))))))))))/\(((RLe x1.g.n x1.g.n)/\(RowsEq [.int .i64] x1.g.n (encL encI (initL x1.g.n (isSrc (List.take x11.k x1.ends)))) (encL encI x38.d)))/\(((0=0 /\ x11.q.length = x38.q.length)/\True)/\(((RLe x38.q.length x11.q.length)/\(RowsEq [.int .i64] x38.q.length (encL encI x11.q) (encL encI x38.q)))/\(((0=0/\(Int.toNat (x3.n : Int) = Int.toNat (x3.n : Int)))/\True)/\((x1.fwd = x1.fwd/\True)/\(((0=0 /\ x1.g.es.length = x1.g.es.length)/\True)/\(((0=0 /\ 0=0)/\True)/\((RLe 1 1/\(RowsEq [.sl [.int .i64, .int .i64, .int .i64], .sl [.sl [.int .i64]], .sl [.sl [.int .i64]]] 1 (encG x1.g) (encG x1.g)))/\(((RLe x1.g.es.length x1.g.es.length)/\(RowsEq [.int .i64] x1.g.es.length (encL encI x1.ws) (encL encI x1.ws)))/\(((RLe x1.ends.length x1.ends.length)/\(RowsEq [.int .i64] x1.ends.length (encL encI x1.ends) (encL encI x1.ends)))/\True))))))))))))/\(∀ x39 : DQ, ((MI (SX.N x1) (fun (v : Nat) => isSrc x1.ends v = true) x39.d x39.q)-> (((decide (0 < (x39.q.length : Int)) = true)-> (∃ x42 : List Int, ((((1 : Nat) <= x42.length)/\((x42.length <= (1073741824 : Nat))/\(((0 : Int) <= x42.getD 0 default)/\(x42.getD 0 default <= (9223372036854775807 : Int)))))/\(((0=0 /\ 0=0)/\True)/\((((0=0 /\ x39.q.length = x42.length)/\True)/\(((RLe x42.length x39.q.length)/\(RowsEq [.int .i64] x42.length (encL encI x39.q) (encL encI x42)))/\True))/\((((0 : Int) <= x42.getD 0 default % 4096)/\(x42.getD 0 default % 4096 < (↑(Int.toNat (x3.n : Int)) : Int)))/\((0 + Int.toNat (x42.getD 0 default % 4096) < x1.g.n)/\(((decide (x39.d.getD (0 + Int.toNat (x42.getD 0 default % 4096)) default < x42.getD 0 default / 4096) = true)-> (∃ x44 : DQ, ((Int.toNat ((x44.q.length : Int) + psi x1.g.n x44.d) < Int.toNat ((x39.q.length : Int) + psi x1.g.n x39.d))/\((MI (SX.N x1) (fun (v : Nat) => isSrc x1.ends v = true) x44.d x44.q)/\((((0=0 /\ 0=0)/\True)/\((0=0 /\ 0=0)/\((0=0 /\ 0=0)/\(True/\((0=0 /\ 0=0)/\((0=0 /\ 0=0)/\((0=0 /\ 0=0)/\((0=0 /\ 0=0)/\((0=0 /\ x1.g.es.length = x1.g.es.length)/\((0=0 /\ x1.ends.length = x1.ends.length)/\(x1.fwd = x1.fwd/\True)))))))))))/\(((RLe x1.g.n x1.g.n)/\(RowsEq [.int .i64] x1.g.n (encL encI x39.d) (encL encI x44.d)))/\(((0=0/\(x42.length - (1 : Nat) = x44.q.length))/\True)/\(((RLe x44.q.length (x42.length - (1 : Nat)))/\(RowsEq [.int .i64] x44.q.length (encL encI (popF x42)) (encL encI x44.q)))/\(((0=0/\(Int.toNat (x3.n : Int) = Int.toNat (x3.n : Int)))/\True)/\((x1.fwd = x1.fwd/\True)/\(((0=0 /\ x1.g.es.length = x1.g.es.length)/\True)/\(((0=0 /\ 0=0)/\True)/\((RLe 1 1/\(RowsEq [.sl [.int .i64, .int .i64, .int .i64], .sl [.sl [.int .i64]], .sl [.sl [.int .i64]]] 1 (encG x1.g) (encG x1.g)))/\(((RLe x1.g.es.length x1.g.es.length)/\(RowsEq [.int .i64] x1.g.es.length (encL encI x1.ws) (encL encI x1.ws)))/\(((RLe x1.ends.length x1.ends.length)/\(RowsEq [.int .i64] x1.ends.length (encL encI x1.ends) (encL encI x1.ends)))/\True)))))))))))))))/\((decide (x39.d.getD (0 + Int.toNat (x42.getD 0 default % 4096)) default < x42.getD 0 default / 4096) = false)-> (∃ x46 : GIx, (True/\(((0=0 /\ 0=0)/\((x42.getD 0 default % 4096 = x46.i)/\True))/\(((RLe 1 1/\(RowsEq [.sl [.int .i64, .int .i64, .int .i64], .sl [.sl [.int .i64]], .sl [.sl [.int .i64]]] 1 (encG x1.g) (encG x46.g)))/\True)/\(∃ x47 : LS.X srchS, ((SLok x47)/\(((0=0 /\ 0=0)/\((0=0 /\ 0=0)/\((0=0 /\ 0=0)/\((0=0 /\ 0=0)/\((0=0 /\ 0=0)/\((0=0 /\ 0=0)/\(((0=0 /\ 0=0)/\((0=0 /\ 0=0)/\True))/\True)))))))/\((((0=0 /\ 0=0)/\True)/\((RLe 1 1/\(RowsEq [.sl [.int .i64, .int .i64, .int .i64], .sl [.sl [.int .i64]], .sl [.sl [.int .i64]]] 1 (encG x1.g) (encG (SLx.g x47))))/\(((0=0/\(x1.g.es.length = (SLx.g x47).es.length))/\True)/\(((RLe (SLx.g x47).es.length x1.g.es.length)/\(RowsEq [.int .i64] (SLx.g x47).es.length (encL encI x1.ws) (encL encI (SLx.ws x47))))/\(((x1.fwd = SLx.fwd x47)/\True)/\(((0=0/\(Int.toNat (x3.n : Int) = (SLx.g x47).n))/\True)/\(((RLe (SLx.g x47).n x1.g.n)/\(RowsEq [.int .i64] (SLx.g x47).n (encL encI x39.d) (encL encI (SLx.d x47))))/\(((0=0/\(x42.length - (1 : Nat) = (SLx.q x47).length))/\True)/\(((RLe (SLx.q x47).length (x42.length - (1 : Nat)))/\(RowsEq [.int .i64] (SLx.q x47).length (encL encI (popF x42)) (encL encI (SLx.q x47))))/\(((x42.getD 0 default / 4096 = SLx.dist x47)/\True)/\(((x46.i = (↑(SLx.node x47) : Int))/\True)/\(((0=0/\(x46.g.n = (SLx.g x47).n))/\True)/\(((RLe (SLx.g x47).n x46.g.n)/\(RowsEq [.sl [.int .i64]] (SLx.g x47).n (encLL (adjG x46.g false)) (encLL (adjG (SLx.g x47) (SLx.fwd x47)))))/\True)))))))))))))/\(∃ x48 : DQ, ((Int.toNat ((x48.q.length : Int) + psi x1.g.n x48.d) < Int.toNat ((x39.q.length : Int) + psi x1.g.n x39.d))/\((MI (SX.N x1) (fun (v : Nat) => isSrc x1.ends v = true) x48.d x48.q)/\((((0=0 /\ 0=0)/\True)/\((0=0 /\ 0=0)/\((0=0 /\ 0=0)/\(True/\((0=0 /\ 0=0)/\((0=0 /\ 0=0)/\((0=0 /\ 0=0)/\((0=0 /\ 0=0)/\((0=0 /\ x1.g.es.length = x1.g.es.length)/\((0=0 /\ x1.ends.length = x1.ends.length)/\(x1.fwd = x1.fwd/\True)))))))))))/\(((RLe x1.g.n (SLx.g x47).n)/\(RowsEq [.int .i64] x1.g.n (encL encI (Prod.fst (dqAt x47 (SLx.m x47)))) (encL encI x48.d)))/\(((0=0/\((Prod.snd (dqAt x47 (SLx.m x47))).length = x48.q.length))/\True)/\(((RLe x48.q.length (Prod.snd (dqAt x47 (SLx.m x47))).length)/\(RowsEq [.int .i64] x48.q.length (encL encI (Prod.snd (dqAt x47 (SLx.m x47)))) (encL encI x48.q)))/\(((0=0/\(Int.toNat (x3.n : Int) = Int.toNat (x3.n : Int)))/\True)/\((x1.fwd = x1.fwd/\True)/\(((0=0 /\ x1.g.es.length = x1.g.es.length)/\True)/\(((0=0 /\ 0=0)/\True)/\((RLe 1 1/\(RowsEq [.sl [.int .i64, .int .i64, .int .i64], .sl [.sl [.int .i64]], .sl [.sl [.int .i64]]] 1 (encG x1.g) (encG x1.g)))/\(((RLe x1.g.es.length x1.g.es.length)/\(RowsEq [.int .i64] x1.g.es.length (encL encI x1.ws) (encL encI x1.ws)))/\(((RLe x1.ends.length x1.ends.length)/\(RowsEq [.int .i64] x1.ends.length (encL encI x1.ends) (encL encI x1.ends)))/\True)))))))))))))))))))))))))))))))/\((decide (0 < (x39.q.length : Int)) = false)-> ((0=0/\(Int.toNat (x3.n : Int) = x1.g.n))/\(((RLe x1.g.n x1.g.n)/\(RowsEq [.int .i64] x1.g.n (encL encI x39.d) (encL encI (distF (SX.N x1) (isSrc x1.ends)))))/\True)))))))))))))))))))))))))))))) = (Keeps cfgSS Try.f46 srchC srchI) by kernel_rfl) (fun x1 => fun h2 => ⟨(SX.g x1),
 trivial,
⟨⟨rfl,rfl⟩,trivial⟩,
⟨⟨⟨Nat.le_refl _⟩,RowsEq.rfl'⟩,trivial⟩,
⟨(by (try dsimp only at *); omega),
(by (try dsimp only at *); omega),
(by (try dsimp only at *); (have q := h2.g.n; have q2 := h2.e; omega))⟩,
((0 : Nat)),
⟨(by (try dsimp only at *); omega),
⟨(by (try dsimp only at *); omega),rfl,
⟨rfl,rfl⟩,trivial,
⟨rfl,rfl⟩,
⟨rfl,rfl⟩,
⟨rfl,rfl⟩,
⟨rfl,rfl⟩,
⟨rfl,rfl⟩,
⟨rfl,rfl⟩,rfl,trivial⟩,
⟨⟨(by (try dsimp only at *); omega)⟩,
(by (try dsimp only at *); (rw [infL_zero]; exact rows_zeroI rfl))⟩,
⟨⟨rfl,rfl⟩,trivial⟩,
⟨rfl,trivial⟩,
⟨⟨rfl,rfl⟩,trivial⟩,
⟨⟨rfl,rfl⟩,trivial⟩,
⟨⟨Nat.le_refl _⟩,RowsEq.rfl'⟩,
⟨⟨Nat.le_refl _⟩,RowsEq.rfl'⟩,
⟨⟨Nat.le_refl _⟩,RowsEq.rfl'⟩,trivial⟩,
fun x5 => fun h6 => ⟨fun g7 => have h7 := of_decide_eq_true g7; ⟨⟨(by (try dsimp only at *); omega),
(by (try dsimp only at *); omega)⟩,
⟨(by (try dsimp only at *); omega),trivial,trivial⟩,
⟨(by (try dsimp only at *); omega),
(by (try dsimp only at *); (have q := h2.g.n; have q2 := h2.e; omega))⟩,
(x5 + (1 : Nat)),
(by (try dsimp only at *); omega),
(by (try dsimp only at *); omega),
⟨(by (try dsimp only at *); omega),rfl,
⟨rfl,rfl⟩,trivial,
⟨rfl,rfl⟩,
⟨rfl,rfl⟩,
⟨rfl,rfl⟩,
⟨rfl,rfl⟩,
⟨rfl,rfl⟩,
⟨rfl,rfl⟩,rfl,trivial⟩,
⟨⟨Nat.le_refl _⟩,
(by (try dsimp only at *); (rw [infL_succ (by omega), nat0]; exact rows_setI (by rw [infL_len]; omega)))⟩,
⟨⟨rfl,rfl⟩,trivial⟩,
⟨rfl,trivial⟩,
⟨⟨rfl,rfl⟩,trivial⟩,
⟨⟨rfl,rfl⟩,trivial⟩,
⟨⟨Nat.le_refl _⟩,RowsEq.rfl'⟩,
⟨⟨Nat.le_refl _⟩,RowsEq.rfl'⟩,
⟨⟨Nat.le_refl _⟩,RowsEq.rfl'⟩,trivial⟩,
fun g9 => have h9 := of_decide_eq_false g9; ⟨({ k := (0 : Nat), q := default : IQ }),
⟨⟨(by (try dsimp only at *); omega),
(by (try dsimp only at *); exact II.zero _)⟩,
⟨(by (try dsimp only at *); omega),rfl,
⟨rfl,rfl⟩,
⟨rfl,rfl⟩,
⟨rfl,rfl⟩,trivial,
⟨rfl,rfl⟩,
⟨rfl,rfl⟩,
⟨rfl,rfl⟩,
⟨rfl,rfl⟩,
⟨rfl,rfl⟩,
⟨rfl,rfl⟩,rfl,trivial⟩,
⟨⟨Nat.le_refl _⟩,
(by (try dsimp only at *); (obtain rfl : x5 = x1.g.n := (by omega); rw [infL_full]; exact RowsEq.rfl'))⟩,
⟨⟨trivial,rfl,
(by (try dsimp only at *); rfl)⟩,trivial⟩,
(by (try dsimp only at *); rfl),
⟨⟨rfl,rfl⟩,trivial⟩,
⟨rfl,trivial⟩,
⟨⟨rfl,rfl⟩,trivial⟩,
⟨⟨rfl,rfl⟩,trivial⟩,
⟨⟨Nat.le_refl _⟩,RowsEq.rfl'⟩,
⟨⟨Nat.le_refl _⟩,RowsEq.rfl'⟩,
⟨⟨Nat.le_refl _⟩,RowsEq.rfl'⟩,trivial⟩,
fun x11 => fun h12 => ⟨fun g13 => have h13 := of_decide_eq_true g13; ⟨⟨(by (try dsimp only at *); omega),
(by (try dsimp only at *); omega)⟩,
(by (try dsimp only at *); omega),
({ g := SX.g x1, i := List.getD (SX.ends x1) ((0 : Nat) + Int.toNat (↑(IQ.k x11) : Int)) default : GIx }),trivial,
⟨⟨rfl,rfl⟩,rfl,trivial⟩,
⟨⟨⟨Nat.le_refl _⟩,RowsEq.rfl'⟩,trivial⟩,
fun g15 => have h15 := of_decide_eq_true g15; ⟨⟨(by (try dsimp only at *); omega),
(by (try dsimp only at *); omega)⟩,
(by (try dsimp only at *); omega),
fun g16 => have h16 := of_decide_eq_true g16; ⟨⟨(by (try dsimp only at *); omega),
(by (try dsimp only at *); omega)⟩,
⟨(by (try dsimp only at *); omega),trivial,trivial⟩,
({ q := IQ.q x11, d := (0 : Int), v := List.getD (SX.ends x1) ((0 : Nat) + Int.toNat (↑(IQ.k x11) : Int)) default : QX }),
⟨(by (try dsimp only at *); exact ii_len h2.n h12.2),
(by (try dsimp only at *); omega),
(by (try dsimp only at *); omega),
(by (try dsimp only at *); omega),
(by (try dsimp only at *); (have q := h2.g.n; have q2 := h2.e; omega))⟩,
⟨⟨rfl,rfl⟩,rfl,rfl,trivial⟩,
⟨⟨⟨rfl,rfl⟩,trivial⟩,
⟨⟨Nat.le_refl _⟩,RowsEq.rfl'⟩,trivial⟩,
⟨(by (try dsimp only at *); omega),
(by (try dsimp only at *); (have q := h2.g.n; have q2 := h2.e; omega))⟩,
({ k := IQ.k x11 + (1 : Nat), q := pushF (IQ.q x11) ((0 : Int) * (4096 : Int) + List.getD (SX.ends x1) ((0 : Nat) + Int.toNat (↑(IQ.k x11) : Int)) default) : IQ }),
(by (try dsimp only at *); omega),
⟨(by (try dsimp only at *); omega),
(by (try dsimp only at *); (simp only [nat0] at *; exact h12.2.push (by omega) h15 (by unfold at0; rw [Nat.zero_add] at h16; exact h16)))⟩,
⟨(by (try dsimp only at *); omega),rfl,
⟨rfl,rfl⟩,
⟨rfl,rfl⟩,
⟨rfl,rfl⟩,trivial,
⟨rfl,rfl⟩,
⟨rfl,rfl⟩,
⟨rfl,rfl⟩,
⟨rfl,rfl⟩,
⟨rfl,rfl⟩,
⟨rfl,rfl⟩,rfl,trivial⟩,
⟨⟨Nat.le_refl _⟩,
(by (try dsimp only at *); (simp only [nat0] at *; rw [init_more (by omega) h15, Nat.zero_add]; exact rows_setI (by rw [initL_len]; omega)))⟩,
⟨⟨rfl,
(by (try dsimp only at *); exact (pushF_len _ _).symm)⟩,trivial⟩,
⟨⟨(by (try dsimp only at *); exact Nat.le_of_eq (pushF_len _ _))⟩,RowsEq.rfl'⟩,
⟨⟨rfl,rfl⟩,trivial⟩,
⟨rfl,trivial⟩,
⟨⟨rfl,rfl⟩,trivial⟩,
⟨⟨rfl,rfl⟩,trivial⟩,
⟨⟨Nat.le_refl _⟩,RowsEq.rfl'⟩,
⟨⟨Nat.le_refl _⟩,RowsEq.rfl'⟩,
⟨⟨Nat.le_refl _⟩,RowsEq.rfl'⟩,trivial⟩,
fun g19 => have h19 := of_decide_eq_false g19; ⟨⟨(by (try dsimp only at *); omega),
(by (try dsimp only at *); (have q := h2.g.n; have q2 := h2.e; omega))⟩,
({ k := IQ.k x11 + (1 : Nat), q := IQ.q x11 : IQ }),
(by (try dsimp only at *); omega),
⟨(by (try dsimp only at *); omega),
(by (try dsimp only at *); (simp only [nat0] at *; have hs := same1 h15 h19; first | exact h12.2.same (by omega) (.inr hs) | (rw [init_same (by omega) (.inr hs)]; exact RowsEq.rfl')))⟩,
⟨(by (try dsimp only at *); omega),rfl,
⟨rfl,rfl⟩,
⟨rfl,rfl⟩,
⟨rfl,rfl⟩,trivial,
⟨rfl,rfl⟩,
⟨rfl,rfl⟩,
⟨rfl,rfl⟩,
⟨rfl,rfl⟩,
⟨rfl,rfl⟩,
⟨rfl,rfl⟩,rfl,trivial⟩,
⟨⟨Nat.le_refl _⟩,
(by (try dsimp only at *); (simp only [nat0] at *; have hs := same1 h15 h19; first | exact h12.2.same (by omega) (.inr hs) | (rw [init_same (by omega) (.inr hs)]; exact RowsEq.rfl')))⟩,
⟨⟨rfl,rfl⟩,trivial⟩,
⟨⟨Nat.le_refl _⟩,RowsEq.rfl'⟩,
⟨⟨rfl,rfl⟩,trivial⟩,
⟨rfl,trivial⟩,
⟨⟨rfl,rfl⟩,trivial⟩,
⟨⟨rfl,rfl⟩,trivial⟩,
⟨⟨Nat.le_refl _⟩,RowsEq.rfl'⟩,
⟨⟨Nat.le_refl _⟩,RowsEq.rfl'⟩,
⟨⟨Nat.le_refl _⟩,RowsEq.rfl'⟩,trivial⟩⟩,
fun g21 => have h21 := of_decide_eq_false g21; ⟨⟨(by (try dsimp only at *); omega),
(by (try dsimp only at *); (have q := h2.g.n; have q2 := h2.e; omega))⟩,
({ k := IQ.k x11 + (1 : Nat), q := IQ.q x11 : IQ }),
(by (try dsimp only at *); omega),
⟨(by (try dsimp only at *); omega),
(by (try dsimp only at *); (simp only [nat0] at *; first | exact h12.2.same (by omega) (.inl h21) | (rw [init_same (by omega) (.inl h21)]; exact RowsEq.rfl')))⟩,
⟨(by (try dsimp only at *); omega),rfl,
⟨rfl,rfl⟩,
⟨rfl,rfl⟩,
⟨rfl,rfl⟩,trivial,
⟨rfl,rfl⟩,
⟨rfl,rfl⟩,
⟨rfl,rfl⟩,
⟨rfl,rfl⟩,
⟨rfl,rfl⟩,
⟨rfl,rfl⟩,rfl,trivial⟩,
⟨⟨Nat.le_refl _⟩,
(by (try dsimp only at *); (simp only [nat0] at *; first | exact h12.2.same (by omega) (.inl h21) | (rw [init_same (by omega) (.inl h21)]; exact RowsEq.rfl')))⟩,
⟨⟨rfl,rfl⟩,trivial⟩,
⟨⟨Nat.le_refl _⟩,RowsEq.rfl'⟩,
⟨⟨rfl,rfl⟩,trivial⟩,
⟨rfl,trivial⟩,
⟨⟨rfl,rfl⟩,trivial⟩,
⟨⟨rfl,rfl⟩,trivial⟩,
⟨⟨Nat.le_refl _⟩,RowsEq.rfl'⟩,
⟨⟨Nat.le_refl _⟩,RowsEq.rfl'⟩,
⟨⟨Nat.le_refl _⟩,RowsEq.rfl'⟩,trivial⟩⟩,
fun g23 => have h23 := of_decide_eq_false g23; ⟨fun h24 => ⟨({ d := initL (Gr.n (SX.g x1)) (isSrc (List.take (IQ.k x11) (SX.ends x1))), q := IQ.q x11 : DQ }),
⟨(by (try dsimp only at *); exact ii_end h2 h12 h23),
⟨⟨⟨rfl,rfl⟩,trivial⟩,
⟨rfl,rfl⟩,
⟨rfl,rfl⟩,trivial,
⟨rfl,rfl⟩,
⟨rfl,rfl⟩,
⟨rfl,rfl⟩,
⟨rfl,rfl⟩,
⟨rfl,rfl⟩,
⟨rfl,rfl⟩,rfl,trivial⟩,
⟨⟨Nat.le_refl _⟩,RowsEq.rfl'⟩,
⟨⟨rfl,rfl⟩,trivial⟩,
⟨⟨Nat.le_refl _⟩,RowsEq.rfl'⟩,
⟨⟨rfl,rfl⟩,trivial⟩,
⟨rfl,trivial⟩,
⟨⟨rfl,rfl⟩,trivial⟩,
⟨⟨rfl,rfl⟩,trivial⟩,
⟨⟨Nat.le_refl _⟩,RowsEq.rfl'⟩,
⟨⟨Nat.le_refl _⟩,RowsEq.rfl'⟩,
⟨⟨Nat.le_refl _⟩,RowsEq.rfl'⟩,trivial⟩,
fun x26 => fun h27 => ⟨fun g28 => have h28 := of_decide_eq_true g28; ⟨(DQ.q x26),
⟨(by (try dsimp only at *); omega),
(by (try dsimp only at *); (have q := mi_len h27; have q2 := mi_rng h2 h27 h28; have q3 := h2.n; omega)),
(by (try dsimp only at *); (have q := mi_len h27; have q2 := mi_rng h2 h27 h28; have q3 := h2.n; omega)),
(by (try dsimp only at *); (have q := mi_len h27; have q2 := mi_rng h2 h27 h28; have q3 := h2.n; omega))⟩,
⟨⟨rfl,rfl⟩,trivial⟩,
⟨⟨⟨rfl,rfl⟩,trivial⟩,
⟨⟨Nat.le_refl _⟩,RowsEq.rfl'⟩,trivial⟩,
⟨(by (try dsimp only at *); omega),
(by (try dsimp only at *); (have q := mi_len h27; have q2 := mi_rng h2 h27 h28; have q3 := h2.n; omega))⟩,
(by (try dsimp only at *); (have q := mi_len h27; have q2 := mi_rng h2 h27 h28; have q3 := h2.n; omega)),
fun g30 => have h30 := of_decide_eq_true g30; ⟨({ d := DQ.d x26, q := popF (DQ.q x26) : DQ }),
(by (try dsimp only at *); exact (mi_skip h2 h27 h28 h30).2),
(by (try dsimp only at *); exact (mi_skip h2 h27 h28 h30).1),
⟨⟨⟨rfl,rfl⟩,trivial⟩,
⟨rfl,rfl⟩,
⟨rfl,rfl⟩,trivial,
⟨rfl,rfl⟩,
⟨rfl,rfl⟩,
⟨rfl,rfl⟩,
⟨rfl,rfl⟩,
⟨rfl,rfl⟩,
⟨rfl,rfl⟩,rfl,trivial⟩,
⟨⟨Nat.le_refl _⟩,RowsEq.rfl'⟩,
⟨⟨rfl,
(by (try dsimp only at *); exact (popF_len _).symm)⟩,trivial⟩,
⟨⟨(by (try dsimp only at *); exact Nat.le_of_eq (popF_len _))⟩,RowsEq.rfl'⟩,
⟨⟨rfl,rfl⟩,trivial⟩,
⟨rfl,trivial⟩,
⟨⟨rfl,rfl⟩,trivial⟩,
⟨⟨rfl,rfl⟩,trivial⟩,
⟨⟨Nat.le_refl _⟩,RowsEq.rfl'⟩,
⟨⟨Nat.le_refl _⟩,RowsEq.rfl'⟩,
⟨⟨Nat.le_refl _⟩,RowsEq.rfl'⟩,trivial⟩,
fun g32 => have h32 := of_decide_eq_false g32; ⟨({ g := SX.g x1, i := List.getD (DQ.q x26) (0 : Nat) default % (4096 : Int) : GIx }),trivial,
⟨⟨rfl,rfl⟩,rfl,trivial⟩,
⟨⟨⟨Nat.le_refl _⟩,RowsEq.rfl'⟩,trivial⟩,
(srchSL x1 x26),
(by (try dsimp only at *); exact mi_slok h2 h27 h28),
⟨⟨rfl,rfl⟩,
⟨rfl,rfl⟩,
⟨rfl,rfl⟩,
⟨rfl,rfl⟩,
⟨rfl,rfl⟩,
⟨rfl,rfl⟩,
⟨⟨rfl,rfl⟩,
⟨rfl,rfl⟩,trivial⟩,trivial⟩,
⟨⟨⟨rfl,rfl⟩,trivial⟩,
⟨⟨Nat.le_refl _⟩,
(by (try dsimp only at *); exact RowsEq.rfl')⟩,
⟨⟨rfl,
(by (try dsimp only at *); rfl)⟩,trivial⟩,
⟨⟨(by (try dsimp only at *); exact Nat.le_refl _)⟩,
(by (try dsimp only at *); exact RowsEq.rfl')⟩,
⟨(by (try dsimp only at *); rfl),trivial⟩,
⟨⟨rfl,
(by (try dsimp only at *); rfl)⟩,trivial⟩,
⟨⟨(by (try dsimp only at *); exact Nat.le_refl _)⟩,
(by (try dsimp only at *); exact RowsEq.rfl')⟩,
⟨⟨rfl,
(by (try dsimp only at *); exact (popF_len _).symm)⟩,trivial⟩,
⟨⟨(by (try dsimp only at *); exact Nat.le_of_eq (popF_len _))⟩,
(by (try dsimp only at *); exact RowsEq.rfl')⟩,
⟨(by (try dsimp only at *); rfl),trivial⟩,
⟨(by (try dsimp only at *); (have q2 := mi_rng h2 h27 h28; show x26.q.getD 0 default % 4096 = (((x26.q.getD 0 default % 4096).toNat : Nat) : Int); omega)),trivial⟩,
⟨⟨rfl,
(by (try dsimp only at *); rfl)⟩,trivial⟩,
⟨⟨(by (try dsimp only at *); exact Nat.le_refl _)⟩,
(by (try dsimp only at *); (show RowsEq _ _ (encLL (adjG x1.g true)) (encLL (adjG x1.g x1.fwd)); rw [h24]; exact RowsEq.rfl'))⟩,trivial⟩,
({ d := Prod.fst (dqAt (srchSL x1 x26) (SLx.m (srchSL x1 x26))), q := Prod.snd (dqAt (srchSL x1 x26) (SLx.m (srchSL x1 x26))) : DQ }),
(by (try dsimp only at *); exact (mi_step h2 h27 h28 h32).2),
(by (try dsimp only at *); exact (mi_step h2 h27 h28 h32).1),
⟨⟨⟨rfl,rfl⟩,trivial⟩,
⟨rfl,rfl⟩,
⟨rfl,rfl⟩,trivial,
⟨rfl,rfl⟩,
⟨rfl,rfl⟩,
⟨rfl,rfl⟩,
⟨rfl,rfl⟩,
⟨rfl,rfl⟩,
⟨rfl,rfl⟩,rfl,trivial⟩,
⟨⟨(by (try dsimp only at *); exact Nat.le_refl _)⟩,RowsEq.rfl'⟩,
⟨⟨rfl,rfl⟩,trivial⟩,
⟨⟨Nat.le_refl _⟩,RowsEq.rfl'⟩,
⟨⟨rfl,rfl⟩,trivial⟩,
⟨rfl,trivial⟩,
⟨⟨rfl,rfl⟩,trivial⟩,
⟨⟨rfl,rfl⟩,trivial⟩,
⟨⟨Nat.le_refl _⟩,RowsEq.rfl'⟩,
⟨⟨Nat.le_refl _⟩,RowsEq.rfl'⟩,
⟨⟨Nat.le_refl _⟩,RowsEq.rfl'⟩,trivial⟩⟩,
fun g36 => have h36 := of_decide_eq_false g36; ⟨⟨rfl,
(by (try dsimp only at *); omega)⟩,
⟨⟨Nat.le_refl _⟩,
(by (try dsimp only at *); (rw [<- mi_end h2 h27 h36]; exact RowsEq.rfl'))⟩,trivial⟩⟩⟩,
fun h37 => ⟨({ d := initL (Gr.n (SX.g x1)) (isSrc (List.take (IQ.k x11) (SX.ends x1))), q := IQ.q x11 : DQ }),
⟨(by (try dsimp only at *); exact ii_end h2 h12 h23),
⟨⟨⟨rfl,rfl⟩,trivial⟩,
⟨rfl,rfl⟩,
⟨rfl,rfl⟩,trivial,
⟨rfl,rfl⟩,
⟨rfl,rfl⟩,
⟨rfl,rfl⟩,
⟨rfl,rfl⟩,
⟨rfl,rfl⟩,
⟨rfl,rfl⟩,rfl,trivial⟩,
⟨⟨Nat.le_refl _⟩,RowsEq.rfl'⟩,
⟨⟨rfl,rfl⟩,trivial⟩,
⟨⟨Nat.le_refl _⟩,RowsEq.rfl'⟩,
⟨⟨rfl,rfl⟩,trivial⟩,
⟨rfl,trivial⟩,
⟨⟨rfl,rfl⟩,trivial⟩,
⟨⟨rfl,rfl⟩,trivial⟩,
⟨⟨Nat.le_refl _⟩,RowsEq.rfl'⟩,
⟨⟨Nat.le_refl _⟩,RowsEq.rfl'⟩,
⟨⟨Nat.le_refl _⟩,RowsEq.rfl'⟩,trivial⟩,
fun x39 => fun h40 => ⟨fun g41 => have h41 := of_decide_eq_true g41; ⟨(DQ.q x39),
⟨(by (try dsimp only at *); omega),
(by (try dsimp only at *); (have q := mi_len h40; have q2 := mi_rng h2 h40 h41; have q3 := h2.n; omega)),
(by (try dsimp only at *); (have q := mi_len h40; have q2 := mi_rng h2 h40 h41; have q3 := h2.n; omega)),
(by (try dsimp only at *); (have q := mi_len h40; have q2 := mi_rng h2 h40 h41; have q3 := h2.n; omega))⟩,
⟨⟨rfl,rfl⟩,trivial⟩,
⟨⟨⟨rfl,rfl⟩,trivial⟩,
⟨⟨Nat.le_refl _⟩,RowsEq.rfl'⟩,trivial⟩,
⟨(by (try dsimp only at *); omega),
(by (try dsimp only at *); (have q := mi_len h40; have q2 := mi_rng h2 h40 h41; have q3 := h2.n; omega))⟩,
(by (try dsimp only at *); (have q := mi_len h40; have q2 := mi_rng h2 h40 h41; have q3 := h2.n; omega)),
fun g43 => have h43 := of_decide_eq_true g43; ⟨({ d := DQ.d x39, q := popF (DQ.q x39) : DQ }),
(by (try dsimp only at *); exact (mi_skip h2 h40 h41 h43).2),
(by (try dsimp only at *); exact (mi_skip h2 h40 h41 h43).1),
⟨⟨⟨rfl,rfl⟩,trivial⟩,
⟨rfl,rfl⟩,
⟨rfl,rfl⟩,trivial,
⟨rfl,rfl⟩,
⟨rfl,rfl⟩,
⟨rfl,rfl⟩,
⟨rfl,rfl⟩,
⟨rfl,rfl⟩,
⟨rfl,rfl⟩,rfl,trivial⟩,
⟨⟨Nat.le_refl _⟩,RowsEq.rfl'⟩,
⟨⟨rfl,
(by (try dsimp only at *); exact (popF_len _).symm)⟩,trivial⟩,
⟨⟨(by (try dsimp only at *); exact Nat.le_of_eq (popF_len _))⟩,RowsEq.rfl'⟩,
⟨⟨rfl,rfl⟩,trivial⟩,
⟨rfl,trivial⟩,
⟨⟨rfl,rfl⟩,trivial⟩,
⟨⟨rfl,rfl⟩,trivial⟩,
⟨⟨Nat.le_refl _⟩,RowsEq.rfl'⟩,
⟨⟨Nat.le_refl _⟩,RowsEq.rfl'⟩,
⟨⟨Nat.le_refl _⟩,RowsEq.rfl'⟩,trivial⟩,
fun g45 => have h45 := of_decide_eq_false g45; ⟨({ g := SX.g x1, i := List.getD (DQ.q x39) (0 : Nat) default % (4096 : Int) : GIx }),trivial,
⟨⟨rfl,rfl⟩,rfl,trivial⟩,
⟨⟨⟨Nat.le_refl _⟩,RowsEq.rfl'⟩,trivial⟩,
(srchSL x1 x39),
(by (try dsimp only at *); exact mi_slok h2 h40 h41),
⟨⟨rfl,rfl⟩,
⟨rfl,rfl⟩,
⟨rfl,rfl⟩,
⟨rfl,rfl⟩,
⟨rfl,rfl⟩,
⟨rfl,rfl⟩,
⟨⟨rfl,rfl⟩,
⟨rfl,rfl⟩,trivial⟩,trivial⟩,
⟨⟨⟨rfl,rfl⟩,trivial⟩,
⟨⟨Nat.le_refl _⟩,
(by (try dsimp only at *); exact RowsEq.rfl')⟩,
⟨⟨rfl,
(by (try dsimp only at *); rfl)⟩,trivial⟩,
⟨⟨(by (try dsimp only at *); exact Nat.le_refl _)⟩,
(by (try dsimp only at *); exact RowsEq.rfl')⟩,
⟨(by (try dsimp only at *); rfl),trivial⟩,
⟨⟨rfl,
(by (try dsimp only at *); rfl)⟩,trivial⟩,
⟨⟨(by (try dsimp only at *); exact Nat.le_refl _)⟩,
(by (try dsimp only at *); exact RowsEq.rfl')⟩,
⟨⟨rfl,
(by (try dsimp only at *); exact (popF_len _).symm)⟩,trivial⟩,
⟨⟨(by (try dsimp only at *); exact Nat.le_of_eq (popF_len _))⟩,
(by (try dsimp only at *); exact RowsEq.rfl')⟩,
⟨(by (try dsimp only at *); rfl),trivial⟩,
⟨(by (try dsimp only at *); (have q2 := mi_rng h2 h40 h41; show x39.q.getD 0 default % 4096 = (((x39.q.getD 0 default % 4096).toNat : Nat) : Int); omega)),trivial⟩,
⟨⟨rfl,
(by (try dsimp only at *); rfl)⟩,trivial⟩,
⟨⟨(by (try dsimp only at *); exact Nat.le_refl _)⟩,
(by (try dsimp only at *); (show RowsEq _ _ (encLL (adjG x1.g false)) (encLL (adjG x1.g x1.fwd)); rw [h37]; exact RowsEq.rfl'))⟩,trivial⟩,
({ d := Prod.fst (dqAt (srchSL x1 x39) (SLx.m (srchSL x1 x39))), q := Prod.snd (dqAt (srchSL x1 x39) (SLx.m (srchSL x1 x39))) : DQ }),
(by (try dsimp only at *); exact (mi_step h2 h40 h41 h45).2),
(by (try dsimp only at *); exact (mi_step h2 h40 h41 h45).1),
⟨⟨⟨rfl,rfl⟩,trivial⟩,
⟨rfl,rfl⟩,
⟨rfl,rfl⟩,trivial,
⟨rfl,rfl⟩,
⟨rfl,rfl⟩,
⟨rfl,rfl⟩,
⟨rfl,rfl⟩,
⟨rfl,rfl⟩,
⟨rfl,rfl⟩,rfl,trivial⟩,
⟨⟨(by (try dsimp only at *); exact Nat.le_refl _)⟩,RowsEq.rfl'⟩,
⟨⟨rfl,rfl⟩,trivial⟩,
⟨⟨Nat.le_refl _⟩,RowsEq.rfl'⟩,
⟨⟨rfl,rfl⟩,trivial⟩,
⟨rfl,trivial⟩,
⟨⟨rfl,rfl⟩,trivial⟩,
⟨⟨rfl,rfl⟩,trivial⟩,
⟨⟨Nat.le_refl _⟩,RowsEq.rfl'⟩,
⟨⟨Nat.le_refl _⟩,RowsEq.rfl'⟩,
⟨⟨Nat.le_refl _⟩,RowsEq.rfl'⟩,trivial⟩⟩,
fun g49 => have h49 := of_decide_eq_false g49; ⟨⟨rfl,
(by (try dsimp only at *); omega)⟩,
⟨⟨Nat.le_refl _⟩,
(by (try dsimp only at *); (rw [<- mi_end h2 h40 h49]; exact RowsEq.rfl'))⟩,trivial⟩⟩⟩⟩⟩⟩⟩⟩)
theorem srch_good : Good Try.prog 46 srchC /\ FnOk Try.prog 46 :=
 good_ofX tok conSS (fn := Try.f46) rfl (by decide +kernel) (fun _ => rfl) srch_keeps (fun g hg => by cases hg) (one_loop rfl srchLoop_good)
structure FX where
 g : Gr
 ts : List Int
 src : List Int
def FX.N (x : FX) (fwd : Bool) : WNet := netG x.g (ttL x.ts x.g.es.length) fwd
def distG (g : Gr) (ts : List Int) (src : List Int) (fwd : Bool) : List Int := distF (netG g (ttL ts g.es.length) fwd) (isSrc src)
structure FXok (x : FX) : Prop where
 g : GOk x.g
 n : x.g.n <= 12
 e : x.src.length <= 1048576
theorem ttL_at {ts : List Int} {n i : Nat} (h : i < n) : (ttL ts n).getD i default = tt ts i := by
 unfold ttL
 rw [List.getD_eq_getElem?_getD, List.getElem?_map, List.getElem?_range h]; rfl
theorem ttL_len (ts : List Int) (n : Nat) : (ttL ts n).length = n := by simp [ttL]
theorem tt_ok (ts : List Int) (i : Nat) : tt ts i = INF ∨ (1 <= tt ts i /\ tt ts i <= 1048576) := by
 unfold tt; split
 ·rename_i h; exact .inr h.2
 ·exact .inl rfl
theorem wsOk_tt (g : Gr) (ts : List Int) : WsOk g (ttL ts g.es.length) := ⟨ttL_len _ _, fun i hi => by rw [ttL_at hi]; exact tt_ok ts i⟩
def fromC (fwd : Bool) : CT where
 X := FX
 pre := FXok
 args := fun x => [.p 100000 0 0, .sl 100001 0 x.ts.length, .sl 100002 0 x.src.length]
 g0 := fun x => graphH x.g 100000 ++ [(100001, .rows .bor k1 x.ts.length (encL encI x.ts)), (100002, .rows .bor k1 x.src.length (encL encI x.src))]
 res := fun x => .sl 1 0 x.g.n
 g1 := fun x => [(1, .rows .own k1 x.g.n (encL encI (distG x.g x.ts x.src fwd)))]
def cfgFr : Cfg := ⟨T, [], [(47, .one travelsC), (46, .one srchC)], noInv, 21, {}⟩
theorem conFr : ConOk Try.prog cfgFr := ConL.ok (.cons (ConL.one travels_good) (.cons (ConL.one srch_good) .nil))
set_option maxRecDepth 100000 in
theorem from_keeps : Keeps cfgFr Try.f39 (fromC true) noIv := Eq.mp (show ((∀ x1 : FX, ((FXok x1)-> (∃ x3 : GTx, ((x3.g.es.length <= (16384 : Nat))/\(((0=0 /\ 0=0)/\((0=0 /\ x1.ts.length = x3.ts.length)/\True))/\(((RLe 1 1/\(RowsEq [.sl [.int .i64, .int .i64, .int .i64], .sl [.sl [.int .i64]], .sl [.sl [.int .i64]]] 1 (encG x1.g) (encG x3.g)))/\(((RLe x3.ts.length x1.ts.length)/\(RowsEq [.int .i64] x3.ts.length (encL encI x1.ts) (encL encI x3.ts)))/\True))/\(∃ x4 : SX, ((SXok x4)/\(((0=0 /\ 0=0)/\((0=0 /\ x3.g.es.length = x4.g.es.length)/\((0=0 /\ x1.src.length = x4.ends.length)/\(true = x4.fwd/\True))))/\(((RLe 1 1/\(RowsEq [.sl [.int .i64, .int .i64, .int .i64], .sl [.sl [.int .i64]], .sl [.sl [.int .i64]]] 1 (encG x1.g) (encG x4.g)))/\(((RLe x4.g.es.length x3.g.es.length)/\(RowsEq [.int .i64] x4.g.es.length (encL encI (ttL x3.ts x3.g.es.length)) (encL encI x4.ws)))/\(((RLe x4.ends.length x1.src.length)/\(RowsEq [.int .i64] x4.ends.length (encL encI x1.src) (encL encI x4.ends)))/\True)))/\((0=0 /\ x4.g.n = x1.g.n)/\(((RLe x1.g.n x4.g.n)/\(RowsEq [.int .i64] x1.g.n (encL encI (distF (SX.N x4) (isSrc x4.ends))) (encL encI (distG x1.g x1.ts x1.src true))))/\True))))))))))))) = (Keeps cfgFr Try.f39 (fromC true) noIv) by kernel_rfl) (fun x1 => fun h2 => ⟨({ g := FX.g x1, ts := FX.ts x1 : GTx }),
(by (try dsimp only at *); exact h2.g.m),
⟨⟨rfl,rfl⟩,
⟨rfl,rfl⟩,trivial⟩,
⟨⟨⟨Nat.le_refl _⟩,RowsEq.rfl'⟩,
⟨⟨Nat.le_refl _⟩,RowsEq.rfl'⟩,trivial⟩,
({ g := FX.g x1, ws := ttL (FX.ts x1) (List.length (Gr.es (FX.g x1))), ends := FX.src x1, fwd := true : SX }),
(by (try dsimp only at *); exact ⟨h2.g, h2.n, wsOk_tt _ _, h2.e⟩),
⟨⟨rfl,rfl⟩,
⟨rfl,rfl⟩,
⟨rfl,rfl⟩,rfl,trivial⟩,
⟨⟨⟨Nat.le_refl _⟩,RowsEq.rfl'⟩,
⟨⟨Nat.le_refl _⟩,RowsEq.rfl'⟩,
⟨⟨Nat.le_refl _⟩,RowsEq.rfl'⟩,trivial⟩,
⟨rfl,rfl⟩,
⟨⟨Nat.le_refl _⟩,
(by (try dsimp only at *); exact RowsEq.rfl')⟩,trivial⟩)
theorem from_good : Good Try.prog 39 (fromC true) /\ FnOk Try.prog 39 := good_of tok conFr (fn := Try.f39) rfl (by decide +kernel) (fun _ => rfl) from_keeps
end Go.Sym