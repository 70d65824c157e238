import Derived.Test.YtpommejalaechaaJ12
namespace Go.Sym
set_option linter.unusedVariables false
theorem addM_ok {x : MS} (h : MSok x) (v : Int) : MSok (addM x v) := by
 unfold addM
 split
 ·exact ⟨h.g, h.n, h.ts, h.tv, by show (x.src.set v.toNat true).length = x.g.n; rw [List.length_set]; exact h.src, h.dl, h.sl, fun q => by cases q⟩
 ·exact h
theorem remM_ok {x : MS} (h : MSok x) (v : Int) : MSok (remM x v) := by
 unfold remM
 split
 ·exact ⟨h.g, h.n, h.ts, h.tv, by show (x.src.set v.toNat false).length = x.g.n; rw [List.length_set]; exact h.src, h.dl, h.sl, fun q => by cases q⟩
 ·exact h
theorem isCh_ok {x : MS} {e t : Int} (h : isCh x e t = true) : okE x e t = true := by
 unfold isCh at h
 cases q : okE x e t with
 | true => rfl
 | false => rw [q] at h; cases h
theorem setM_ok {x : MS} (h : MSok x) (e t : Int) : MSok (setM x e t) := by
 unfold setM
 split
 ·rename_i q; exact mup_ok (chg_ok h (isCh_ok q)).1
 ·exact h
theorem setM_g (x : MS) (e t : Int) : (setM x e t).g = x.g := by unfold setM; split <;> rfl
theorem setM_ts {x : MS} {e t : Int} (h : okE x e t = true) : (setM x e t).ts = x.ts.set e.toNat t := by
 unfold setM
 split
 ·rfl
 ·rename_i q
  have : x.ts.getD e.toNat default = t := by
   by_cases c : x.ts.getD e.toNat default = t
   ·exact c
   ·exact absurd (show isCh x e t = true by unfold isCh; rw [h, decide_eq_true c]; rfl) q
  rw [<- this]
  apply List.ext_getElem (by rw [List.length_set])
  intro i h1 h2
  rw [List.getElem_set]
  split
  ·rename_i w; subst w; rw [List.getD_eq_getElem?_getD, List.getElem?_eq_getElem h1]; rfl
  ·rfl
theorem mvM_g (x : TRx) (s : TSt) : (mvM x s).g = ⟨7, x.es⟩ := by
 unfold mvM
 split
 ·exact (addM_g _ _).1
 ·split
  ·exact (remM_g _ _).1
  ·exact setM_g _ _ _
theorem act_is (x : TRx) (s : TSt) : actM x s = mvM x s := by
 unfold actM
 rw [<- mvM_g x s]
theorem act_0 {x : TRx} {s : TSt} (h : (mvAt x s).k % 3 = 0) : addM (trM x s) ((mvAt x s).a % 7) = actM x s := by
 rw [act_is]; unfold mvM; rw [if_pos h]
theorem act_1 {x : TRx} {s : TSt} (h : ¬ (mvAt x s).k % 3 = 0) (h1 : (mvAt x s).k % 3 = 1) : remM (trM x s) ((mvAt x s).a % 7) = actM x s := by
 rw [act_is]; unfold mvM; rw [if_neg h, if_pos h1]
theorem act_20 {x : TRx} {s : TSt} (h : ¬ (mvAt x s).k % 3 = 0) (h1 : ¬ (mvAt x s).k % 3 = 1) (ht : (mvAt x s).t = 0) : setM (trM x s) ((mvAt x s).a % x.es.length) 4611686018427387904 = actM x s := by
 rw [act_is]; unfold mvM mvT; rw [if_neg h, if_neg h1, if_pos ht]
theorem act_21 {x : TRx} {s : TSt} (h : ¬ (mvAt x s).k % 3 = 0) (h1 : ¬ (mvAt x s).k % 3 = 1) (ht : ¬ (mvAt x s).t = 0) : setM (trM x s) ((mvAt x s).a % x.es.length) (mvAt x s).t = actM x s := by
 rw [act_is]; unfold mvM mvT; rw [if_neg h, if_neg h1, if_neg ht]
theorem act_ok {x : TRx} {s : TSt} (h : MSok (trM x s)) : MSok (actM x s) := by
 rw [act_is]
 unfold mvM
 split
 ·exact addM_ok h _
 ·split
  ·exact remM_ok h _
  ·exact setM_ok h _ _
theorem mv_rng {x : TRx} (h : TRok x) {s : TSt} (hk : (s.k : Int) < x.mv.length) : (0 <= (mvAt x s).k /\ (mvAt x s).k <= 255) /\ (0 <= (mvAt x s).a /\ (mvAt x s).a <= 255) /\ (0 <= (mvAt x s).t /\ (mvAt x s).t <= 255) := by
 unfold mvAt
 rw [Nat.zero_add, Int.toNat_natCast]
 exact h.at hk
theorem act_ts0 {x : TRx} {s : TSt} (h : (mvAt x s).k % 3 = 0) : (actM x s).ts = s.ts := by rw [<- act_0 h]; exact (addM_g _ _).2.1
theorem act_ts1 {x : TRx} {s : TSt} (h : ¬ (mvAt x s).k % 3 = 0) (h1 : (mvAt x s).k % 3 = 1) : (actM x s).ts = s.ts := by rw [<- act_1 h h1]; exact (remM_g _ _).2.1
theorem mod_rng {a : Int} {n : Nat} (h : 0 <= a) (hn : ¬ (n : Int) = 0) : 0 <= a % n /\ a % n < n := ⟨Int.emod_nonneg _ (by omega), Int.emod_lt_of_pos _ (by omega)⟩
theorem act_ts20 {x : TRx} (hx : TRok x) {s : TSt} (hk : (s.k : Int) < x.mv.length) (hn : ¬ (x.es.length : Int) = 0) (h : ¬ (mvAt x s).k % 3 = 0) (h1 : ¬ (mvAt x s).k % 3 = 1) (ht : (mvAt x s).t = 0) : (actM x s).ts = s.ts.set ((mvAt x s).a % x.es.length).toNat 4611686018427387904 := by
 rw [<- act_20 h h1 ht]
 have q := mod_rng (mv_rng hx hk).2.1.1 hn
 exact setM_ts (x := trM x s) (decide_eq_true ⟨q.1, q.2, .inr rfl⟩)
theorem act_ts21 {x : TRx} (hx : TRok x) {s : TSt} (hk : (s.k : Int) < x.mv.length) (hn : ¬ (x.es.length : Int) = 0) (h : ¬ (mvAt x s).k % 3 = 0) (h1 : ¬ (mvAt x s).k % 3 = 1) (ht : ¬ (mvAt x s).t = 0) : (actM x s).ts = s.ts.set ((mvAt x s).a % x.es.length).toNat (mvAt x s).t := by
 rw [<- act_21 h h1 ht]
 have q := mod_rng (mv_rng hx hk).2.1.1 hn
 have r := mv_rng hx hk
 exact setM_ts (x := trM x s) (decide_eq_true ⟨q.1, q.2, .inl (by omega)⟩)
theorem start_gok {es : List Ed} (h : decide (errN ⟨7, es⟩ = 0) = true) : GOk ⟨7, es⟩ /\ es.all (edVB 7) = true := by
 have h := of_decide_eq_true h
 unfold errN at h
 rw [if_neg (by omega)] at h
 split at h
 ·cases h
 ·rename_i h3
  split at h
  ·rename_i h4
   exact ⟨gok (x := ⟨7, es⟩) (show ¬ (7 : Int) < 1 by omega) (show ¬ 4096 < (7 : Int) by omega) h3 h4, h4⟩
  ·cases h
theorem start_ts {es : List Ed} (h : decide (errN ⟨7, es⟩ = 0) = true) : ttL (dL es) es.length = dL es := by
 have h4 := (start_gok h).2
 unfold ttL
 have hl : (dL es).length = es.length := by simp [dL]
 apply List.ext_getElem (by simp [dL])
 intro i h1 h2
 have hi : i < es.length := by rw [hl] at h2; exact h2
 rw [List.getElem_map, List.getElem_range]
 have e : (dL es).getD i default = (es.getD i default).d := by
  unfold dL; rw [List.getD_eq_getElem?_getD, List.getElem?_eq_getElem (by simpa using hi)]; simp
 have e2 : (dL es)[i] = (es.getD i default).d := by rw [<- e, List.getD_eq_getElem?_getD, List.getElem?_eq_getElem h2]; rfl
 have v := of_decide_eq_true (all_at (d := default) h4 hi)
 rw [e2]
 rcases v.2.2.2.2 with w | w
 ·rw [tt_yes ⟨by omega, by rw [e]; exact w⟩, e]
 ·rw [tt_no (by rw [e]; omega), w]
def trS (x : TRx) : TSt := ⟨0, dL x.es, List.replicate 7 false, [], [], true⟩
theorem start_ok {x : TRx} (h : decide (errN ⟨7, x.es⟩ = 0) = true) : MSok (trM x (trS x)) := by
 have g := start_gok h
 have hl : (dL x.es).length = x.es.length := by simp [dL]
 refine ⟨g.1, show 7 <= 12 by omega, hl, fun i hi => ?_, rfl, show 0 <= 12 by omega, show 0 <= 12 by omega, fun q => by cases q⟩
 have hi : i < (dL x.es).length := hi
 show (dL x.es).getD i default = _ ∨ _
 show (dL x.es).getD i default = 4611686018427387904 ∨ (1 <= (dL x.es).getD i default /\ (dL x.es).getD i default <= 1048576)
 rw [<- start_ts h, ttL_at (by omega)]
 rcases tt_ok (dL x.es) i with q | q
 ·exact .inl q
 ·exact .inr q
theorem tmM_up (x : MS) (v : Int) : tmM x.up v = x.up := by unfold tmM; split <;> rfl
theorem tmD_up {x : MS} {v : Nat} (h : v < x.g.n) : tmD x.up v = x.dI.getD v default := by
 unfold tmD
 rw [if_pos (show inN1 x.up v = true from decide_eq_true ⟨by omega, by show (v : Int) < x.g.n; omega⟩), Int.toNat_natCast]
 rfl
structure AF (x : TRx) (s : TSt) : Prop where
 ok : MSok (actM x s)
 up : MSok (actM x s).up
 dl : (actM x s).dI.length = 7
 so : (soF (actM x s) (actM x s).dI).length = 7
 tl : (actM x s).ts.length = x.es.length
 sl : (actM x s).src.length = 7
theorem act_f {x : TRx} {s : TSt} (h : MSok (trM x s)) : AF x s := by
 have o := act_ok h
 exact ⟨o, mup_ok o, o.dlen, (mup_len o).2, o.ts, o.src⟩
theorem act_p0 {x : TRx} {s : TSt} (h : (mvAt x s).k % 3 = 0) : (actM x s).ts = s.ts /\ (actM x s).dist = s.dist /\ (actM x s).so = s.so := by rw [<- act_0 h]; exact (addM_g _ _).2
theorem act_p1 {x : TRx} {s : TSt} (h : ¬ (mvAt x s).k % 3 = 0) (h1 : (mvAt x s).k % 3 = 1) : (actM x s).ts = s.ts /\ (actM x s).dist = s.dist /\ (actM x s).so = s.so := by rw [<- act_1 h h1]; exact (remM_g _ _).2
theorem setM_src (x : MS) (e t : Int) : (setM x e t).src = x.src := by unfold setM; split <;> rfl
theorem act_src {x : TRx} {s : TSt} (h : ¬ (mvAt x s).k % 3 = 0) (h1 : ¬ (mvAt x s).k % 3 = 1) : (actM x s).src = s.src := by
 rw [act_is]; unfold mvM; rw [if_neg h, if_neg h1]; exact setM_src _ _ _
theorem rows_eqL {α : Type} [Inhabited α] {e : α -> Nat -> D} {ks : List Kd} {n : Nat} {a b : List α} (h : a = b) : RowsEq ks n (encL e a) (encL e b) := h ▸ RowsEq.rfl'
theorem rows_setTo {a b : List Int} {r n : Nat} {v : Int} (h : b = a.set r v) (hr : r < a.length) : RowsEq k1 n (setRow (encL encI a) (0 + r) 0 [.i v]) (encL encI b) := by
 subst h; rw [Nat.zero_add]; exact rows_setI hr
theorem so_up (x : MS) (d : List Int) : soF x.up d = soF x d := rfl
theorem wo_step (d : List Int) (k : Nat) : max (woAt d k) (d.getD (0 + ((k : Nat) : Int).toNat) default) = woAt d (k + 1) := by rw [Nat.zero_add, Int.toNat_natCast]; exact (woAt_succ _ _).symm
theorem tm_1 {x : TRx} {s : TSt} (A : AF x s) (v : Int) : (tmM (actM x s).up v).dist.length = 7 := (congrArg (fun m : MS => m.dist.length) (tmM_up (actM x s) v)).trans A.dl
theorem tm_2 {x : TRx} {s : TSt} (A : AF x s) (v : Int) : (tmM (actM x s).up v).so.length = 7 := (congrArg (fun m : MS => m.so.length) (tmM_up (actM x s) v)).trans A.so
theorem tm_3 {x : TRx} {s : TSt} (v : Int) : (tmM (actM x s).up v).od = false := congrArg MS.od (tmM_up (actM x s) v)
theorem ts_lt {x : TRx} (hx : TRok x) {s : TSt} (h : MSok (trM x s)) (hk : (s.k : Int) < x.mv.length) (hn : ¬ (x.es.length : Int) = 0) : ((mvAt x s).a % x.es.length).toNat < s.ts.length := by
 have q := mod_rng (n := x.es.length) (mv_rng hx hk).2.1.1 hn
 have q2 : s.ts.length = x.es.length := h.ts
 omega
theorem ix_lt {x : TRx} (hx : TRok x) {s : TSt} (hk : (s.k : Int) < x.mv.length) (hn : ¬ (x.es.length : Int) = 0) : 0 + ((mvAt x s).a % x.es.length).toNat < x.es.length := by
 have q := mod_rng (n := x.es.length) (mv_rng hx hk).2.1.1 hn
 omega
theorem in64 {a : Int} (h : 0 <= a /\ a <= 255) : -9223372036854775808 <= a := by omega
theorem in64b {a : Int} (h : 0 <= a /\ a <= 255) : a <= 9223372036854775807 := by omega
theorem no_1 {x : TRx} {s : TSt} (v : Nat) (hv : (v : Int) < (7 : Nat)) : tmD (actM x s).up v = (actM x s).dI.getD (0 + ((v : Nat) : Int).toNat) default := by
 rw [Nat.zero_add, Int.toNat_natCast]; exact tmD_up (show v < 7 by omega)
theorem no_2 {x : TRx} {s : TSt} (A : AF x s) (v : Nat) (hv : (v : Int) < (7 : Nat)) {w : Int} (hw : w <= 255) :
  ((decide (0 <= (v : Int)) && hasW (ofW (wiL (actM x s).dI w) (wiL (actM x s).dI w).length) (v : Int).toNat) != decide ((actM x s).dI.getD (0 + ((v : Nat) : Int).toNat) default <= w)) = false := by
 rw [Nat.zero_add, has_wi (by rw [A.dl]; omega) (by rw [A.dl]; omega) hw, Int.toNat_natCast]
 cases decide ((actM x s).dI.getD v default <= w) <;> rfl
theorem no_3 {x : TRx} {s : TSt} (A : AF x s) (v : Nat) (hv : v <= 7) (h : ¬ (v : Int) < (7 : Nat)) : (faL (actM x s).up.dI).1 = woAt (actM x s).dI v := by
 rw [show v = (actM x s).dI.length by rw [A.dl]; omega]
 exact wo_end (d := (actM x s).dI) (fun u hu => (A.ok.drng (by rw [A.dl] at hu; exact hu)).1) (by rw [A.dl]; omega)
end Go.Sym