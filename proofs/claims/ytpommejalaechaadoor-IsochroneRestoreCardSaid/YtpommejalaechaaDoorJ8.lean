import Derived.Test.YtpommejalaechaaDoorJ6
import Derived.Test.YtpommejalaechaaDoorXD
namespace Go.Sym
set_option linter.unusedVariables false
set_option linter.unusedSimpArgs false
open Go.Proofs
set_option maxRecDepth 100000
set_option maxHeartbeats 4000000
structure METx where
 m : MS
 e : Int
 t : Int
def chg (x : MS) (e t : Int) : MS := { x.up with ts := x.ts.set e.toNat t, od := true }
def okE (x : MS) (e t : Int) : Bool := decide (0 <= e /\ e < x.g.es.length /\ ((1 <= t /\ t <= 1048576) ∨ t = 4611686018427387904))
def isCh (x : MS) (e t : Int) : Bool := okE x e t && decide (x.ts.getD e.toNat default ≠ t)
def setM (x : MS) (e t : Int) : MS := if isCh x e t = true then (chg x e t).up else x
def cntAt (a b : List Int) (k : Nat) : Int := (((List.range k).filter fun i => decide (b.getD i default ≠ a.getD i default)).length : Nat)
def setN (x : MS) (e t : Int) : Int := if isCh x e t = true then cntAt x.dI (chg x e t).dI x.g.n else 0
def setE (x : MS) (e t : Int) : Int := if okE x e t = true then 0 else 1
theorem cntAt_yes {a b : List Int} {k : Nat} (h : b.getD k default ≠ a.getD k default) : cntAt a b (k + 1) = cntAt a b k + 1 := by
 unfold cntAt; rw [List.range_succ, List.filter_append, List.filter_cons, if_pos (decide_eq_true h)]; simp
theorem cntAt_no {a b : List Int} {k : Nat} (h : ¬ b.getD k default ≠ a.getD k default) : cntAt a b (k + 1) = cntAt a b k := by
 unfold cntAt; rw [List.range_succ, List.filter_append, List.filter_cons, if_neg (by rw [decide_eq_false h]; decide)]; simp
theorem cntAt_rng (a b : List Int) (k : Nat) : 0 <= cntAt a b k /\ cntAt a b k <= k := by
 unfold cntAt
 have := List.length_filter_le (fun i => decide (b.getD i default ≠ a.getD i default)) (List.range k)
 rw [List.length_range] at this; omega
theorem chg_ok {x : MS} (h : MSok x) {e t : Int} (h2 : okE x e t = true) : MSok (chg x e t) /\ (chg x e t).od = true := by
 have q := mup_len h
 have o : 0 <= e /\ e < x.g.es.length /\ ((1 <= t /\ t <= 1048576) ∨ t = 4611686018427387904) := of_decide_eq_true h2
 refine ⟨⟨h.g, h.n, by show (x.ts.set e.toNat t).length = x.g.es.length; rw [List.length_set]; exact h.ts, fun i hi => ?_, h.src, by show x.up.dist.length <= 12; rw [q.1]; exact h.n, by show x.up.so.length <= 12; rw [q.2]; exact h.n, fun q => by cases q⟩, rfl⟩
 have hi : i < (x.ts.set e.toNat t).length := hi
 have e1 : (x.ts.set e.toNat t).getD i default = if e.toNat = i /\ i < x.ts.length then t else x.ts.getD i default := at0_set
 show (x.ts.set e.toNat t).getD i default = _ ∨ _
 show (x.ts.set e.toNat t).getD i default = 4611686018427387904 ∨ (1 <= (x.ts.set e.toNat t).getD i default /\ (x.ts.set e.toNat t).getD i default <= 1048576)
 rw [e1]
 rw [List.length_set] at hi
 split
 ·omega
 ·exact h.tv i hi
theorem set_bad {x : MS} {e t : Int} (h : okE x e t = false) : setM x e t = x /\ setN x e t = 0 /\ setE x e t = 1 := by
 unfold setM setN setE isCh; rw [h]; exact ⟨rfl, rfl, rfl⟩
theorem set_same2 {x : MS} {e t : Int} (h : okE x e t = true) (h2 : x.ts.getD e.toNat default = t) : setM x e t = x /\ setN x e t = 0 /\ setE x e t = 0 := by
 have : isCh x e t = false := by unfold isCh; rw [h, decide_eq_false (fun q => q h2)]; rfl
 unfold setM setN setE; rw [this, h]; exact ⟨rfl, rfl, rfl⟩
theorem set_new {x : MS} {e t : Int} (h : okE x e t = true) (h2 : ¬ x.ts.getD e.toNat default = t) : setM x e t = (chg x e t).up /\ setN x e t = cntAt x.dI (chg x e t).dI x.g.n /\ setE x e t = 0 := by
 have : isCh x e t = true := by unfold isCh; rw [h, decide_eq_true h2]; rfl
 unfold setM setN setE; rw [this, h]; exact ⟨rfl, rfl, rfl⟩
def setTC : CT where
 X := METx
 pre := fun x => MSok x.m
 args := fun x => [.p 100000 0 0, .i .i64 x.e, .i .i64 x.t]
 g0 := fun x => msM x.m 100000 .own .own .bor .own
 res := fun x => .tup [.i .i64 (setN x.m x.e x.t), .i .i64 (setE x.m x.e x.t)]
 g1 := fun x => stH x.m (setM x.m x.e x.t) ++ [(100002, .rows .own k1 x.m.g.es.length (encL encI (setM x.m x.e x.t).ts))]
def setTI (x : METx) (id : Nat) : Option Inv := match id with
 | 100031 => some (cutB 31 (!okE x.m x.e x.t))
 | 0 => some { X := Nat, ok := fun k => k <= x.m.g.n, fr := fun k => [(64, .i .i64 k), (9, .i .i64 (cntAt x.m.dI (chg x.m x.e x.t).dI k))], hp := fun _ => [(100004, .dead), (100005, .dead)], me := fun k => x.m.g.n - k }
 | _ => none
def cfgJa : Cfg := ⟨T, [], [(31, .one isTC), (29, .two selU (.one updTC) (.one updC))], noInv, 64, {}⟩
theorem conJa : ConOk Tryd.prog cfgJa := ConL.ok (.cons (ConL.one ist_good) (.cons (ConL.two (ConL.one updT_good) (ConL.one upd_good)) .nil))
theorem okE_1 {x : MS} {e t : Int} (h : e < 0) : okE x e t = false := decide_eq_false (by omega)
theorem okE_2 {x : MS} {e t : Int} (h : (x.g.es.length : Int) <= e) : okE x e t = false := decide_eq_false (by omega)
theorem okE_3 {x : MS} {e t : Int} (h : (!isT t) = true) (h2 : t ≠ 4611686018427387904) : okE x e t = false := by
 have : isT t = false := by simpa using h
 have := of_decide_eq_false this
 exact decide_eq_false (by omega)
theorem okE_4 {x : MS} {e t : Int} (h : ¬ e < 0) (h1 : ¬ (x.g.es.length : Int) <= e) (h2 : ¬ t ≠ 4611686018427387904) : okE x e t = true := decide_eq_true (by omega)
theorem okE_5 {x : MS} {e t : Int} (h : ¬ e < 0) (h1 : ¬ (x.g.es.length : Int) <= e) (h2 : (!isT t) = false) : okE x e t = true := by
 have : isT t = true := by simpa using h2
 have := of_decide_eq_true this
 exact decide_eq_true (by omega)
theorem ch_len {x : MS} (h : MSok x) {e t : Int} (h2 : okE x e t = true) : (chg x e t).up.dist.length = x.g.n /\ (chg x e t).up.so.length = x.g.n := mup_len (chg_ok h h2).1
theorem ok_t {x : MS} {e t : Int} (h : (!okE x e t) = false) : okE x e t = true := by simpa using h
theorem ok_f {x : MS} {e t : Int} (h : (!okE x e t) = true) : okE x e t = false := by simpa using h
theorem ok_3 {x : MS} {e t : Int} (h : ¬ e < 0) (h1 : ¬ (x.g.es.length : Int) <= e) (h2 : (!isT t) = true) : decide (t ≠ 4611686018427387904) = !okE x e t := by
 by_cases q : t ≠ 4611686018427387904
 ·rw [decide_eq_true q, okE_3 h2 q]; rfl
 ·rw [decide_eq_false q, okE_4 h h1 q]; rfl
set_option maxRecDepth 100000 in
theorem setT_keeps : Keeps cfgJa Tryd.f16 setTC setTI := Eq.mp (show ((∀ x1 : METx, ((MSok x1.m)-> ((((decide (x1.e < (0 : Int)) = false)-> (((decide ((x1.m.g.es.length : Int) <= x1.e) = false)-> (∃ x5 : Int, (True/\((x1.t = x5/\True)/\(True/\((((!isT x5) = true)-> (∃ x7 : Unit, (True/\((decide (x1.t ≠ (4611686018427387904 : Int)) = !okE x1.m x1.e x1.t)/\True))))/\(((!isT x5) = false)-> (∃ x9 : Unit, (True/\((false = !okE x1.m x1.e x1.t)/\True))))))))))/\((decide ((x1.m.g.es.length : Int) <= x1.e) = true)-> (∃ x11 : Unit, (True/\((true = !okE x1.m x1.e x1.t)/\True))))))/\((decide (x1.e < (0 : Int)) = true)-> (∃ x13 : Unit, (True/\((true = !okE x1.m x1.e x1.t)/\True)))))/\(∀ x14 : Unit, (True -> ((((!okE x1.m x1.e x1.t) = true)-> ((((0 : Int) = setN x1.m x1.e x1.t)/\(((1 : Int) = setE x1.m x1.e x1.t)/\True))/\(((0=0 /\ 0=0)/\((0=0 /\ x1.m.g.es.length = x1.m.g.es.length)/\((0=0 /\ x1.m.g.n = x1.m.g.n)/\((0=0/\(x1.m.dist.length = (setM x1.m x1.e x1.t).dist.length))/\((0=0/\(x1.m.so.length = (setM x1.m x1.e x1.t).so.length))/\((x1.m.od = (setM x1.m x1.e x1.t).od)/\True))))))/\(((RLe (setM x1.m x1.e x1.t).dist.length x1.m.dist.length)/\(RowsEq [.int .i64] (setM x1.m x1.e x1.t).dist.length (encL encI x1.m.dist) (encL encI (setM x1.m x1.e x1.t).dist)))/\(((RLe (setM x1.m x1.e x1.t).so.length x1.m.so.length)/\(RowsEq [.int .i64] (setM x1.m x1.e x1.t).so.length (encL encI x1.m.so) (encL encI (setM x1.m x1.e x1.t).so)))/\(True/\(True/\(((RLe x1.m.g.es.length x1.m.g.es.length)/\(RI x1.m.g.es.length x1.m.ts (setM x1.m x1.e x1.t).ts))/\True))))))))/\(((!okE x1.m x1.e x1.t) = false)-> ((((0 : Int) <= x1.e)/\(x1.e < (x1.m.g.es.length : Int)))/\((0 + Int.toNat x1.e < x1.m.g.es.length)/\(((decide (x1.m.ts.getD (0 + Int.toNat x1.e) default = x1.t) = true)-> ((((0 : Int) = setN x1.m x1.e x1.t)/\(((0 : Int) = setE x1.m x1.e x1.t)/\True))/\(((0=0 /\ 0=0)/\((0=0 /\ x1.m.g.es.length = x1.m.g.es.length)/\((0=0 /\ x1.m.g.n = x1.m.g.n)/\((0=0/\(x1.m.dist.length = (setM x1.m x1.e x1.t).dist.length))/\((0=0/\(x1.m.so.length = (setM x1.m x1.e x1.t).so.length))/\((x1.m.od = (setM x1.m x1.e x1.t).od)/\True))))))/\(((RLe (setM x1.m x1.e x1.t).dist.length x1.m.dist.length)/\(RowsEq [.int .i64] (setM x1.m x1.e x1.t).dist.length (encL encI x1.m.dist) (encL encI (setM x1.m x1.e x1.t).dist)))/\(((RLe (setM x1.m x1.e x1.t).so.length x1.m.so.length)/\(RowsEq [.int .i64] (setM x1.m x1.e x1.t).so.length (encL encI x1.m.so) (encL encI (setM x1.m x1.e x1.t).so)))/\(True/\(True/\(((RLe x1.m.g.es.length x1.m.g.es.length)/\(RI x1.m.g.es.length x1.m.ts (setM x1.m x1.e x1.t).ts))/\True))))))))/\((decide (x1.m.ts.getD (0 + Int.toNat x1.e) default = x1.t) = false)-> (∃ x20 : MS, ((MSok x20)/\(((0=0 /\ 0=0)/\True)/\((((0=0 /\ 0=0)/\((0=0 /\ x1.m.g.es.length = x20.g.es.length)/\((0=0 /\ x1.m.g.n = x20.g.n)/\((0=0 /\ x1.m.dist.length = x20.dist.length)/\((0=0 /\ x1.m.so.length = x20.so.length)/\(x1.m.od = x20.od/\True))))))/\((RLe 1 1/\(RowsEq [.sl [.int .i64, .int .i64, .int .i64], .sl [.sl [.int .i64]], .sl [.sl [.int .i64]]] 1 (encG x1.m.g) (encG x20.g)))/\(((RLe x20.g.es.length x1.m.g.es.length)/\(RI x20.g.es.length x1.m.ts x20.ts))/\(((RLe x20.g.n x1.m.g.n)/\(RowsEq (Kd.bool :: []) x20.g.n (encL encBo x1.m.src) (encL encBo x20.src)))/\(((RLe x20.dist.length x1.m.dist.length)/\(RI x20.dist.length x1.m.dist x20.dist))/\(((RLe x20.so.length x1.m.so.length)/\(RI x20.so.length x1.m.so x20.so))/\True))))))/\((((0 : Int) <= x1.e)/\(x1.e < (x20.g.es.length : Int)))/\(((0 + Int.toNat x1.e < x1.m.g.es.length)/\(True/\True))/\(∃ x21 : MS, (((MSok x21) /\ x21.od = true)/\(((0=0 /\ 0=0)/\True)/\((((0=0 /\ 0=0)/\((0=0 /\ x20.g.es.length = x21.g.es.length)/\((0=0 /\ x20.g.n = x21.g.n)/\((0=0 /\ x20.g.n = x21.dist.length)/\((0=0 /\ x20.g.n = x21.so.length)/\(true = x21.od/\True))))))/\((RLe 1 1/\(RowsEq [.sl [.int .i64, .int .i64, .int .i64], .sl [.sl [.int .i64]], .sl [.sl [.int .i64]]] 1 (encG x1.m.g) (encG x21.g)))/\(((RLe x21.g.es.length x1.m.g.es.length)/\(RowsEq [.int .i64] x21.g.es.length (setRow (encL encI x1.m.ts) (0 + Int.toNat x1.e) 0 (D.i x1.t :: @List.nil D)) (encL encI x21.ts)))/\(((RLe x21.g.n x1.m.g.n)/\(RowsEq (Kd.bool :: []) x21.g.n (encL encBo x1.m.src) (encL encBo x21.src)))/\(((RLe x21.dist.length x20.g.n)/\(RI x21.dist.length (MS.dI x20) x21.dist))/\(((RLe x21.so.length x20.g.n)/\(RI x21.so.length (soF x20 (MS.dI x20)) x21.so))/\True))))))/\(∃ x22 : Nat, (((x22 <= x1.m.g.n)/\(((0 = (x22 : Int))/\(((0 : Int) = cntAt (MS.dI x1.m) (MS.dI (chg x1.m x1.e x1.t)) x22)/\(((x21.g.n : Int) = (x21.g.n : Int))/\((0=0 /\ x21.g.n = x21.g.n)/\((0=0/\((3 : Nat) = (3 : Nat)))/\((0=0 /\ 0=0)/\((0=0 /\ 0=0)/\(True/\((0=0 /\ 0=0)/\((0=0/\((5 : Nat) = (5 : Nat)))/\((0=0 /\ 0=0)/\((0=0 /\ 0=0)/\(((0 + Int.toNat x1.e = 0 + Int.toNat x1.e) /\ 0=0)/\(x1.t = x1.t/\(x1.e = x1.e/\((0=0 /\ x20.g.es.length = x20.g.es.length)/\((0=0/\((1 : Nat) = (1 : Nat)))/\((0=0 /\ 0=0)/\((0=0 /\ 0=0)/\((0=0 /\ x20.g.n = x20.g.n)/\((0=0 /\ x20.g.n = x20.g.n)/\((0=0/\((3 : Nat) = (3 : Nat)))/\((0=0 /\ 0=0)/\((0=0 /\ 0=0)/\(True/\((0=0 /\ 0=0)/\((decide (x1.m.ts.getD (0 + Int.toNat x1.e) default = x1.t) = decide (x1.m.ts.getD (0 + Int.toNat x1.e) default = x1.t))/\(x1.t = x1.t/\((x1.m.ts.getD (0 + Int.toNat x1.e) default = x1.m.ts.getD (0 + Int.toNat x1.e) default)/\(((0 + Int.toNat x1.e = 0 + Int.toNat x1.e) /\ 0=0)/\(x1.e = x1.e/\((0=0 /\ x1.m.g.es.length = x1.m.g.es.length)/\((0=0/\((1 : Nat) = (1 : Nat)))/\((0=0 /\ 0=0)/\((0=0 /\ 0=0)/\(((!okE x1.m x1.e x1.t) = !okE x1.m x1.e x1.t)/\(((0 : Int) = 0)/\(((0 : Int) = 0)/\((0=0 /\ 0=0)/\(x1.e = x1.e/\(x1.t = x1.t/\True)))))))))))))))))))))))))))))))))))))))))/\(True/\(True/\(((0=0 /\ 0=0)/\((0=0 /\ x21.g.es.length = x21.g.es.length)/\((0=0 /\ x21.g.n = x21.g.n)/\((0=0 /\ x21.g.n = x21.g.n)/\((0=0 /\ x21.g.n = x21.g.n)/\(false = false/\True))))))/\(((RLe x21.g.n x21.g.n)/\(RI x21.g.n (MS.dI x21) (MS.dI x21)))/\(((RLe x21.g.n x21.g.n)/\(RI x21.g.n (soF x21 (MS.dI x21)) (soF x21 (MS.dI x21))))/\(((RLe x1.m.g.es.length x1.m.g.es.length)/\(RowsEq [.int .i64] x1.m.g.es.length (setRow (encL encI x1.m.ts) (0 + Int.toNat x1.e) 0 (D.i x1.t :: @List.nil D)) (setRow (encL encI x1.m.ts) (0 + Int.toNat x1.e) 0 (D.i x1.t :: @List.nil D))))/\(((RLe x20.g.n x20.g.n)/\(RI x20.g.n (MS.dI x20) (MS.dI x20)))/\(((RLe x20.g.n x20.g.n)/\(RI x20.g.n (soF x20 (MS.dI x20)) (soF x20 (MS.dI x20))))/\((RLe 1 1/\(RowsEq [.sl [.int .i64, .int .i64, .int .i64], .sl [.sl [.int .i64]], .sl [.sl [.int .i64]]] 1 (encG x1.m.g) (encG x1.m.g)))/\(((RLe x1.m.g.n x1.m.g.n)/\(RowsEq (Kd.bool :: []) x1.m.g.n (encL encBo x1.m.src) (encL encBo x1.m.src)))/\True))))))))))))/\(∀ x23 : Nat, ((x23 <= x1.m.g.n)-> (((decide ((x23 : Int) < (x21.g.n : Int)) = true)-> ((((0 : Int) <= (x23 : Int))/\((x23 : Int) < (x21.g.n : Int)))/\((0 + Int.toNat (x23 : Int) < x21.g.n)/\((((0 : Int) <= (x23 : Int))/\((x23 : Int) < (x20.g.n : Int)))/\((0 + Int.toNat (x23 : Int) < x20.g.n)/\(((decide ((MS.dI x21).getD (0 + Int.toNat (x23 : Int)) default ≠ (MS.dI x20).getD (0 + Int.toNat (x23 : Int)) default) = true)-> ((((-9223372036854775808 : Int) <= cntAt (MS.dI x1.m) (MS.dI (chg x1.m x1.e x1.t)) x23 + 1)/\(cntAt (MS.dI x1.m) (MS.dI (chg x1.m x1.e x1.t)) x23 + 1 <= (9223372036854775807 : Int)))/\((((-9223372036854775808 : Int) <= (x23 : Int) + 1)/\((x23 : Int) + 1 <= (9223372036854775807 : Int)))/\(∃ x27 : Nat, ((x1.m.g.n - x27 < x1.m.g.n - x23)/\((x27 <= x1.m.g.n)/\((((x23 : Int) + 1 = (x27 : Int))/\((cntAt (MS.dI x1.m) (MS.dI (chg x1.m x1.e x1.t)) x23 + 1 = cntAt (MS.dI x1.m) (MS.dI (chg x1.m x1.e x1.t)) x27)/\(((x21.g.n : Int) = (x21.g.n : Int))/\((0=0 /\ x21.g.n = x21.g.n)/\((0=0/\((3 : Nat) = (3 : Nat)))/\((0=0 /\ 0=0)/\((0=0 /\ 0=0)/\(True/\((0=0 /\ 0=0)/\((0=0/\((5 : Nat) = (5 : Nat)))/\((0=0 /\ 0=0)/\((0=0 /\ 0=0)/\(((0 + Int.toNat x1.e = 0 + Int.toNat x1.e) /\ 0=0)/\(x1.t = x1.t/\(x1.e = x1.e/\((0=0 /\ x20.g.es.length = x20.g.es.length)/\((0=0/\((1 : Nat) = (1 : Nat)))/\((0=0 /\ 0=0)/\((0=0 /\ 0=0)/\((0=0 /\ x20.g.n = x20.g.n)/\((0=0 /\ x20.g.n = x20.g.n)/\((0=0/\((3 : Nat) = (3 : Nat)))/\((0=0 /\ 0=0)/\((0=0 /\ 0=0)/\(True/\((0=0 /\ 0=0)/\((decide (x1.m.ts.getD (0 + Int.toNat x1.e) default = x1.t) = decide (x1.m.ts.getD (0 + Int.toNat x1.e) default = x1.t))/\(x1.t = x1.t/\((x1.m.ts.getD (0 + Int.toNat x1.e) default = x1.m.ts.getD (0 + Int.toNat x1.e) default)/\(((0 + Int.toNat x1.e = 0 + Int.toNat x1.e) /\ 0=0)/\(x1.e = x1.e/\((0=0 /\ x1.m.g.es.length = x1.m.g.es.length)/\((0=0/\((1 : Nat) = (1 : Nat)))/\((0=0 /\ 0=0)/\((0=0 /\ 0=0)/\(((!okE x1.m x1.e x1.t) = !okE x1.m x1.e x1.t)/\(((0 : Int) = 0)/\(((0 : Int) = 0)/\((0=0 /\ 0=0)/\(x1.e = x1.e/\(x1.t = x1.t/\True)))))))))))))))))))))))))))))))))))))))))/\(True/\(True/\(((0=0 /\ 0=0)/\((0=0 /\ x21.g.es.length = x21.g.es.length)/\((0=0 /\ x21.g.n = x21.g.n)/\((0=0 /\ x21.g.n = x21.g.n)/\((0=0 /\ x21.g.n = x21.g.n)/\(false = false/\True))))))/\(((RLe x21.g.n x21.g.n)/\(RI x21.g.n (MS.dI x21) (MS.dI x21)))/\(((RLe x21.g.n x21.g.n)/\(RI x21.g.n (soF x21 (MS.dI x21)) (soF x21 (MS.dI x21))))/\(((RLe x1.m.g.es.length x1.m.g.es.length)/\(RowsEq [.int .i64] x1.m.g.es.length (setRow (encL encI x1.m.ts) (0 + Int.toNat x1.e) 0 (D.i x1.t :: @List.nil D)) (setRow (encL encI x1.m.ts) (0 + Int.toNat x1.e) 0 (D.i x1.t :: @List.nil D))))/\(((RLe x20.g.n x20.g.n)/\(RI x20.g.n (MS.dI x20) (MS.dI x20)))/\(((RLe x20.g.n x20.g.n)/\(RI x20.g.n (soF x20 (MS.dI x20)) (soF x20 (MS.dI x20))))/\((RLe 1 1/\(RowsEq [.sl [.int .i64, .int .i64, .int .i64], .sl [.sl [.int .i64]], .sl [.sl [.int .i64]]] 1 (encG x1.m.g) (encG x1.m.g)))/\(((RLe x1.m.g.n x1.m.g.n)/\(RowsEq (Kd.bool :: []) x1.m.g.n (encL encBo x1.m.src) (encL encBo x1.m.src)))/\True)))))))))))))))))/\((decide ((MS.dI x21).getD (0 + Int.toNat (x23 : Int)) default ≠ (MS.dI x20).getD (0 + Int.toNat (x23 : Int)) default) = false)-> ((((-9223372036854775808 : Int) <= (x23 : Int) + 1)/\((x23 : Int) + 1 <= (9223372036854775807 : Int)))/\(∃ x29 : Nat, ((x1.m.g.n - x29 < x1.m.g.n - x23)/\((x29 <= x1.m.g.n)/\((((x23 : Int) + 1 = (x29 : Int))/\((cntAt (MS.dI x1.m) (MS.dI (chg x1.m x1.e x1.t)) x23 = cntAt (MS.dI x1.m) (MS.dI (chg x1.m x1.e x1.t)) x29)/\(((x21.g.n : Int) = (x21.g.n : Int))/\((0=0 /\ x21.g.n = x21.g.n)/\((0=0/\((3 : Nat) = (3 : Nat)))/\((0=0 /\ 0=0)/\((0=0 /\ 0=0)/\(True/\((0=0 /\ 0=0)/\((0=0/\((5 : Nat) = (5 : Nat)))/\((0=0 /\ 0=0)/\((0=0 /\ 0=0)/\(((0 + Int.toNat x1.e = 0 + Int.toNat x1.e) /\ 0=0)/\(x1.t = x1.t/\(x1.e = x1.e/\((0=0 /\ x20.g.es.length = x20.g.es.length)/\((0=0/\((1 : Nat) = (1 : Nat)))/\((0=0 /\ 0=0)/\((0=0 /\ 0=0)/\((0=0 /\ x20.g.n = x20.g.n)/\((0=0 /\ x20.g.n = x20.g.n)/\((0=0/\((3 : Nat) = (3 : Nat)))/\((0=0 /\ 0=0)/\((0=0 /\ 0=0)/\(True/\((0=0 /\ 0=0)/\((decide (x1.m.ts.getD (0 + Int.toNat x1.e) default = x1.t) = decide (x1.m.ts.getD (0 + Int.toNat x1.e) default = x1.t))/\(x1.t = x1.t/\((x1.m.ts.getD (0 + Int.toNat x1.e) default = x1.m.ts.getD (0 + Int.toNat x1.e) default)/\(((0 + Int.toNat x1.e = 0 + Int.toNat x1.e) /\ 0=0)/\(x1.e = x1.e/\((0=0 /\ x1.m.g.es.length = x1.m.g.es.length)/\((0=0/\((1 : Nat) = (1 : Nat)))/\((0=0 /\ 0=0)/\((0=0 /\ 0=0)/\(((!okE x1.m x1.e x1.t) = !okE x1.m x1.e x1.t)/\(((0 : Int) = 0)/\(((0 : Int) = 0)/\((0=0 /\ 0=0)/\(x1.e = x1.e/\(x1.t = x1.t/\True)))))))))))))))))))))))))))))))))))))))))/\(True/\(True/\(((0=0 /\ 0=0)/\((0=0 /\ x21.g.es.length = x21.g.es.length)/\((0=0 /\ x21.g.n = x21.g.n)/\((0=0 /\ x21.g.n = x21.g.n)/\((0=0 /\ x21.g.n = x21.g.n)/\(false = false/\True))))))/\(((RLe x21.g.n x21.g.n)/\(RI x21.g.n (MS.dI x21) (MS.dI x21)))/\(((RLe x21.g.n x21.g.n)/\(RI x21.g.n (soF x21 (MS.dI x21)) (soF x21 (MS.dI x21))))/\(((RLe x1.m.g.es.length x1.m.g.es.length)/\(RowsEq [.int .i64] x1.m.g.es.length (setRow (encL encI x1.m.ts) (0 + Int.toNat x1.e) 0 (D.i x1.t :: @List.nil D)) (setRow (encL encI x1.m.ts) (0 + Int.toNat x1.e) 0 (D.i x1.t :: @List.nil D))))/\(((RLe x20.g.n x20.g.n)/\(RI x20.g.n (MS.dI x20) (MS.dI x20)))/\(((RLe x20.g.n x20.g.n)/\(RI x20.g.n (soF x20 (MS.dI x20)) (soF x20 (MS.dI x20))))/\((RLe 1 1/\(RowsEq [.sl [.int .i64, .int .i64, .int .i64], .sl [.sl [.int .i64]], .sl [.sl [.int .i64]]] 1 (encG x1.m.g) (encG x1.m.g)))/\(((RLe x1.m.g.n x1.m.g.n)/\(RowsEq (Kd.bool :: []) x1.m.g.n (encL encBo x1.m.src) (encL encBo x1.m.src)))/\True))))))))))))))))))))))/\((decide ((x23 : Int) < (x21.g.n : Int)) = false)-> (((cntAt (MS.dI x1.m) (MS.dI (chg x1.m x1.e x1.t)) x23 = setN x1.m x1.e x1.t)/\(((0 : Int) = setE x1.m x1.e x1.t)/\True))/\(((0=0 /\ 0=0)/\((0=0 /\ x21.g.es.length = x1.m.g.es.length)/\((0=0 /\ x21.g.n = x1.m.g.n)/\((0=0/\(x21.g.n = (setM x1.m x1.e x1.t).dist.length))/\((0=0/\(x21.g.n = (setM x1.m x1.e x1.t).so.length))/\((false = (setM x1.m x1.e x1.t).od)/\True))))))/\(((RLe (setM x1.m x1.e x1.t).dist.length x21.g.n)/\(RowsEq [.int .i64] (setM x1.m x1.e x1.t).dist.length (encL encI (MS.dI x21)) (encL encI (setM x1.m x1.e x1.t).dist)))/\(((RLe (setM x1.m x1.e x1.t).so.length x21.g.n)/\(RowsEq [.int .i64] (setM x1.m x1.e x1.t).so.length (encL encI (soF x21 (MS.dI x21))) (encL encI (setM x1.m x1.e x1.t).so)))/\(True/\(True/\(((RLe x1.m.g.es.length x1.m.g.es.length)/\(RowsEq [.int .i64] x1.m.g.es.length (setRow (encL encI x1.m.ts) (0 + Int.toNat x1.e) 0 (D.i x1.t :: @List.nil D)) (encL encI (setM x1.m x1.e x1.t).ts)))/\True))))))))))))))))))))))))))))))))))) = (Keeps cfgJa Tryd.f16 setTC setTI) by kernel_rfl) (fun x1 => fun h2 => ⟨⟨fun g3 => have h3 := dF g3; ⟨fun g4 => have h4 := dF g4; ⟨(METx.t x1),
 trivial,
⟨rfl,trivial⟩,trivial,
fun h6 => ⟨(default),trivial,
(by exact ok_3 ‹_› ‹_› ‹_›),trivial⟩,
fun h8 => ⟨(default),trivial,
(by rw [okE_5 ‹_› ‹_› ‹_›]; rfl),trivial⟩⟩,
fun g10 => have h10 := dT g10; ⟨(default),trivial,
(by rw [okE_2 ‹_›]; rfl),trivial⟩⟩,
fun g12 => have h12 := dT g12; ⟨(default),trivial,
(by rw [okE_1 ‹_›]; rfl),trivial⟩⟩,
fun x14 => fun h15 => ⟨fun h16 => ⟨⟨((set_bad (x := x1.m) (e := x1.e) (t := x1.t) (ok_f ‹_›)).2.1.symm),
((set_bad (x := x1.m) (e := x1.e) (t := x1.t) (ok_f ‹_›)).2.2.symm),trivial⟩,
⟨⟨rfl,rfl⟩,
⟨rfl,rfl⟩,
⟨rfl,rfl⟩,
⟨rfl,
(by rw [(set_bad (x := x1.m) (e := x1.e) (t := x1.t) (ok_f ‹_›)).1])⟩,
⟨rfl,
(by rw [(set_bad (x := x1.m) (e := x1.e) (t := x1.t) (ok_f ‹_›)).1])⟩,
(by rw [(set_bad (x := x1.m) (e := x1.e) (t := x1.t) (ok_f ‹_›)).1]),trivial⟩,
⟨⟨(by rw [(set_bad (x := x1.m) (e := x1.e) (t := x1.t) (ok_f ‹_›)).1]; exact Nat.le_refl _)⟩,
(by rw [(set_bad (x := x1.m) (e := x1.e) (t := x1.t) (ok_f ‹_›)).1]; exact rr)⟩,
⟨⟨(by rw [(set_bad (x := x1.m) (e := x1.e) (t := x1.t) (ok_f ‹_›)).1]; exact Nat.le_refl _)⟩,
(by rw [(set_bad (x := x1.m) (e := x1.e) (t := x1.t) (ok_f ‹_›)).1]; exact rr)⟩,trivial,trivial,
⟨rl,
(by rw [(set_bad (x := x1.m) (e := x1.e) (t := x1.t) (ok_f ‹_›)).1]; exact rr)⟩,trivial⟩,
fun h17 => ⟨⟨(by have q := of_decide_eq_true (show decide _ = true from ok_t h17); omega),
(by have q := of_decide_eq_true (show decide _ = true from ok_t h17); omega)⟩,
(by have q := of_decide_eq_true (show decide _ = true from ok_t h17); omega),
fun g18 => have h18 := dT g18; ⟨⟨(by (try simp only [Nat.zero_add, Int.toNat_natCast] at *); have e := set_same2 (x := x1.m) (e := x1.e) (t := x1.t) (ok_t ‹_›) ‹_›; exact e.2.1.symm),
(by (try simp only [Nat.zero_add, Int.toNat_natCast] at *); have e := set_same2 (x := x1.m) (e := x1.e) (t := x1.t) (ok_t ‹_›) ‹_›; exact e.2.2.symm),trivial⟩,
⟨⟨rfl,rfl⟩,
⟨rfl,rfl⟩,
⟨rfl,rfl⟩,
⟨rfl,
(by (try simp only [Nat.zero_add, Int.toNat_natCast] at *); have e := set_same2 (x := x1.m) (e := x1.e) (t := x1.t) (ok_t ‹_›) ‹_›; (rw [e.1]; done))⟩,
⟨rfl,
(by (try simp only [Nat.zero_add, Int.toNat_natCast] at *); have e := set_same2 (x := x1.m) (e := x1.e) (t := x1.t) (ok_t ‹_›) ‹_›; (rw [e.1]; done))⟩,
(by (try simp only [Nat.zero_add, Int.toNat_natCast] at *); have e := set_same2 (x := x1.m) (e := x1.e) (t := x1.t) (ok_t ‹_›) ‹_›; (rw [e.1]; done)),trivial⟩,
⟨⟨(by (try simp only [Nat.zero_add, Int.toNat_natCast] at *); have e := set_same2 (x := x1.m) (e := x1.e) (t := x1.t) (ok_t ‹_›) ‹_›; (rw [e.1]; exact Nat.le_refl _))⟩,
(by (try simp only [Nat.zero_add, Int.toNat_natCast] at *); have e := set_same2 (x := x1.m) (e := x1.e) (t := x1.t) (ok_t ‹_›) ‹_›; (rw [e.1]; exact rr))⟩,
⟨⟨(by (try simp only [Nat.zero_add, Int.toNat_natCast] at *); have e := set_same2 (x := x1.m) (e := x1.e) (t := x1.t) (ok_t ‹_›) ‹_›; (rw [e.1]; exact Nat.le_refl _))⟩,
(by (try simp only [Nat.zero_add, Int.toNat_natCast] at *); have e := set_same2 (x := x1.m) (e := x1.e) (t := x1.t) (ok_t ‹_›) ‹_›; (rw [e.1]; exact rr))⟩,trivial,trivial,
⟨rl,
(by (try simp only [Nat.zero_add, Int.toNat_natCast] at *); have e := set_same2 (x := x1.m) (e := x1.e) (t := x1.t) (ok_t ‹_›) ‹_›; (rw [e.1]; exact rr))⟩,trivial⟩,
fun g19 => have h19 := dF g19; ⟨(METx.m x1),
(by omega),
⟨⟨rfl,rfl⟩,trivial⟩,
⟨⟨⟨rfl,rfl⟩,
⟨rfl,rfl⟩,
⟨rfl,rfl⟩,
⟨rfl,rfl⟩,
⟨rfl,rfl⟩,rfl,trivial⟩,
⟨rl,rr⟩,
⟨rl,rr⟩,
⟨rl,rr⟩,
⟨rl,rr⟩,
⟨rl,rr⟩,trivial⟩,
⟨(by have q := of_decide_eq_true (show decide _ = true from ok_t h17); omega),
(by have q := of_decide_eq_true (show decide _ = true from ok_t h17); omega)⟩,
⟨(by have q := of_decide_eq_true (show decide _ = true from ok_t h17); omega),trivial,trivial⟩,
(chg (METx.m x1) (METx.e x1) (METx.t x1)),
⟨(by exact (chg_ok h2 (ok_t ‹_›)).1),rfl⟩,
⟨⟨rfl,rfl⟩,trivial⟩,
⟨⟨⟨rfl,rfl⟩,
⟨rfl,rfl⟩,
⟨rfl,rfl⟩,
⟨rfl,
(by have l := mup_len h2; first | exact l.1.symm | exact l.2.symm | exact Nat.le_of_eq l.1 | exact Nat.le_of_eq l.2)⟩,
⟨rfl,
(by have l := mup_len h2; first | exact l.1.symm | exact l.2.symm | exact Nat.le_of_eq l.1 | exact Nat.le_of_eq l.2)⟩,rfl,trivial⟩,
⟨rl,rr⟩,
⟨⟨(Nat.le_refl _)⟩,
(by simp only [Nat.zero_add]; have w := of_decide_eq_true (show decide _ = true from ok_t h17); exact rows_setI (by have := h2.ts; omega))⟩,
⟨⟨(Nat.le_refl _)⟩,rr⟩,
⟨⟨(by have l := mup_len h2; first | exact l.1.symm | exact l.2.symm | exact Nat.le_of_eq l.1 | exact Nat.le_of_eq l.2)⟩,rr⟩,
⟨⟨(by have l := mup_len h2; first | exact l.1.symm | exact l.2.symm | exact Nat.le_of_eq l.1 | exact Nat.le_of_eq l.2)⟩,rr⟩,trivial⟩,
((0 : Nat)),
⟨(by omega),
⟨(by omega),rfl,rfl,
⟨rfl,rfl⟩,
⟨rfl,rfl⟩,
⟨rfl,rfl⟩,
⟨rfl,rfl⟩,trivial,
⟨rfl,rfl⟩,
⟨rfl,rfl⟩,
⟨rfl,rfl⟩,
⟨rfl,rfl⟩,
⟨rfl,rfl⟩,rfl,rfl,
⟨rfl,rfl⟩,
⟨rfl,rfl⟩,
⟨rfl,rfl⟩,
⟨rfl,rfl⟩,
⟨rfl,rfl⟩,
⟨rfl,rfl⟩,
⟨rfl,rfl⟩,
⟨rfl,rfl⟩,
⟨rfl,rfl⟩,trivial,
⟨rfl,rfl⟩,rfl,rfl,rfl,
⟨rfl,rfl⟩,rfl,
⟨rfl,rfl⟩,
⟨rfl,rfl⟩,
⟨rfl,rfl⟩,
⟨rfl,rfl⟩,rfl,rfl,rfl,
⟨rfl,rfl⟩,rfl,rfl,trivial⟩,trivial,trivial,
⟨⟨rfl,rfl⟩,
⟨rfl,rfl⟩,
⟨rfl,rfl⟩,
⟨rfl,rfl⟩,
⟨rfl,rfl⟩,rfl,trivial⟩,
⟨rl,rr⟩,
⟨rl,rr⟩,
⟨rl,rr⟩,
⟨rl,rr⟩,
⟨rl,rr⟩,
⟨rl,rr⟩,
⟨rl,rr⟩,trivial⟩,
fun x23 => fun h24 => ⟨fun g25 => have h25 := dT g25; ⟨⟨(by omega),
(by omega)⟩,
(by omega),
⟨(by omega),
(by assumption)⟩,
(by have q : x1.m.g.n <= 12 := h2.n; have c := cntAt_rng x1.m.dI (chg x1.m x1.e x1.t).dI x23; simp only [show (chg x1.m x1.e x1.t).g = x1.m.g from rfl, Nat.zero_add, Int.toNat_natCast] at *; omega),
fun g26 => have h26 := dT g26; ⟨⟨(by have q : x1.m.g.n <= 12 := h2.n; have c := cntAt_rng x1.m.dI (chg x1.m x1.e x1.t).dI x23; simp only [show (chg x1.m x1.e x1.t).g = x1.m.g from rfl, Nat.zero_add, Int.toNat_natCast] at *; omega),
(by have q : x1.m.g.n <= 12 := h2.n; have c := cntAt_rng x1.m.dI (chg x1.m x1.e x1.t).dI x23; simp only [show (chg x1.m x1.e x1.t).g = x1.m.g from rfl, Nat.zero_add, Int.toNat_natCast] at *; omega)⟩,
⟨(by omega),
(by have q : x1.m.g.n <= 12 := h2.n; have c := cntAt_rng x1.m.dI (chg x1.m x1.e x1.t).dI x23; simp only [show (chg x1.m x1.e x1.t).g = x1.m.g from rfl, Nat.zero_add, Int.toNat_natCast] at *; omega)⟩,
(x23 + (1 : Nat)),
(by have q : x1.m.g.n <= 12 := h2.n; have c := cntAt_rng x1.m.dI (chg x1.m x1.e x1.t).dI x23; simp only [show (chg x1.m x1.e x1.t).g = x1.m.g from rfl, Nat.zero_add, Int.toNat_natCast] at *; omega),
(by have q : x1.m.g.n <= 12 := h2.n; have c := cntAt_rng x1.m.dI (chg x1.m x1.e x1.t).dI x23; simp only [show (chg x1.m x1.e x1.t).g = x1.m.g from rfl, Nat.zero_add, Int.toNat_natCast] at *; omega),
⟨(by omega),
(by simp only [Nat.zero_add, Int.toNat_natCast] at *; first | exact (cntAt_yes (by assumption)).symm | exact (cntAt_no (by assumption)).symm),rfl,
⟨rfl,rfl⟩,
⟨rfl,rfl⟩,
⟨rfl,rfl⟩,
⟨rfl,rfl⟩,trivial,
⟨rfl,rfl⟩,
⟨rfl,rfl⟩,
⟨rfl,rfl⟩,
⟨rfl,rfl⟩,
⟨rfl,rfl⟩,rfl,rfl,
⟨rfl,rfl⟩,
⟨rfl,rfl⟩,
⟨rfl,rfl⟩,
⟨rfl,rfl⟩,
⟨rfl,rfl⟩,
⟨rfl,rfl⟩,
⟨rfl,rfl⟩,
⟨rfl,rfl⟩,
⟨rfl,rfl⟩,trivial,
⟨rfl,rfl⟩,rfl,rfl,rfl,
⟨rfl,rfl⟩,rfl,
⟨rfl,rfl⟩,
⟨rfl,rfl⟩,
⟨rfl,rfl⟩,
⟨rfl,rfl⟩,rfl,rfl,rfl,
⟨rfl,rfl⟩,rfl,rfl,trivial⟩,trivial,trivial,
⟨⟨rfl,rfl⟩,
⟨rfl,rfl⟩,
⟨rfl,rfl⟩,
⟨rfl,rfl⟩,
⟨rfl,rfl⟩,rfl,trivial⟩,
⟨rl,rr⟩,
⟨rl,rr⟩,
⟨rl,rr⟩,
⟨rl,rr⟩,
⟨rl,rr⟩,
⟨rl,rr⟩,
⟨rl,rr⟩,trivial⟩,
fun g28 => have h28 := dF g28; ⟨⟨(by omega),
(by have q : x1.m.g.n <= 12 := h2.n; have c := cntAt_rng x1.m.dI (chg x1.m x1.e x1.t).dI x23; simp only [show (chg x1.m x1.e x1.t).g = x1.m.g from rfl, Nat.zero_add, Int.toNat_natCast] at *; omega)⟩,
(x23 + (1 : Nat)),
(by have q : x1.m.g.n <= 12 := h2.n; have c := cntAt_rng x1.m.dI (chg x1.m x1.e x1.t).dI x23; simp only [show (chg x1.m x1.e x1.t).g = x1.m.g from rfl, Nat.zero_add, Int.toNat_natCast] at *; omega),
(by have q : x1.m.g.n <= 12 := h2.n; have c := cntAt_rng x1.m.dI (chg x1.m x1.e x1.t).dI x23; simp only [show (chg x1.m x1.e x1.t).g = x1.m.g from rfl, Nat.zero_add, Int.toNat_natCast] at *; omega),
⟨(by omega),
(by simp only [Nat.zero_add, Int.toNat_natCast] at *; first | exact (cntAt_yes (by assumption)).symm | exact (cntAt_no (by assumption)).symm),rfl,
⟨rfl,rfl⟩,
⟨rfl,rfl⟩,
⟨rfl,rfl⟩,
⟨rfl,rfl⟩,trivial,
⟨rfl,rfl⟩,
⟨rfl,rfl⟩,
⟨rfl,rfl⟩,
⟨rfl,rfl⟩,
⟨rfl,rfl⟩,rfl,rfl,
⟨rfl,rfl⟩,
⟨rfl,rfl⟩,
⟨rfl,rfl⟩,
⟨rfl,rfl⟩,
⟨rfl,rfl⟩,
⟨rfl,rfl⟩,
⟨rfl,rfl⟩,
⟨rfl,rfl⟩,
⟨rfl,rfl⟩,trivial,
⟨rfl,rfl⟩,rfl,rfl,rfl,
⟨rfl,rfl⟩,rfl,
⟨rfl,rfl⟩,
⟨rfl,rfl⟩,
⟨rfl,rfl⟩,
⟨rfl,rfl⟩,rfl,rfl,rfl,
⟨rfl,rfl⟩,rfl,rfl,trivial⟩,trivial,trivial,
⟨⟨rfl,rfl⟩,
⟨rfl,rfl⟩,
⟨rfl,rfl⟩,
⟨rfl,rfl⟩,
⟨rfl,rfl⟩,rfl,trivial⟩,
⟨rl,rr⟩,
⟨rl,rr⟩,
⟨rl,rr⟩,
⟨rl,rr⟩,
⟨rl,rr⟩,
⟨rl,rr⟩,
⟨rl,rr⟩,trivial⟩⟩,
fun g30 => have h30 := dF g30; ⟨⟨(by have o : okE x1.m x1.e x1.t = true := ok_t h17; have n : ¬ x1.m.ts.getD x1.e.toNat default = x1.t := (by simp only [Nat.zero_add] at *; assumption); rw [(set_new o n).2.1]; have w : ¬ (x23 : Int) < x1.m.g.n := h30; rw [show x23 = x1.m.g.n by omega]),
(by have o : okE x1.m x1.e x1.t = true := ok_t h17; have n : ¬ x1.m.ts.getD x1.e.toNat default = x1.t := (by simp only [Nat.zero_add] at *; assumption); have q := set_new o n; have l := ch_len h2 o; first | exact q.2.2.symm | (rw [q.1]; exact l.1.symm) | (rw [q.1]; exact l.2.symm) | (rw [q.1]; exact Nat.le_of_eq l.1) | (rw [q.1]; exact Nat.le_of_eq l.2) | (rw [q.1]; exact rr) | (rw [q.1]; simp only [Nat.zero_add]; exact rows_setI (by have w := of_decide_eq_true (show decide _ = true from ok_t h17); have := h2.ts; omega)) | (rw [q.1]; rfl)),trivial⟩,
⟨⟨rfl,rfl⟩,
⟨rfl,rfl⟩,
⟨rfl,rfl⟩,
⟨rfl,
(by have o : okE x1.m x1.e x1.t = true := ok_t h17; have n : ¬ x1.m.ts.getD x1.e.toNat default = x1.t := (by simp only [Nat.zero_add] at *; assumption); have q := set_new o n; have l := ch_len h2 o; first | exact q.2.2.symm | (rw [q.1]; exact l.1.symm) | (rw [q.1]; exact l.2.symm) | (rw [q.1]; exact Nat.le_of_eq l.1) | (rw [q.1]; exact Nat.le_of_eq l.2) | (rw [q.1]; exact rr) | (rw [q.1]; simp only [Nat.zero_add]; exact rows_setI (by have w := of_decide_eq_true (show decide _ = true from ok_t h17); have := h2.ts; omega)) | (rw [q.1]; rfl))⟩,
⟨rfl,
(by have o : okE x1.m x1.e x1.t = true := ok_t h17; have n : ¬ x1.m.ts.getD x1.e.toNat default = x1.t := (by simp only [Nat.zero_add] at *; assumption); have q := set_new o n; have l := ch_len h2 o; first | exact q.2.2.symm | (rw [q.1]; exact l.1.symm) | (rw [q.1]; exact l.2.symm) | (rw [q.1]; exact Nat.le_of_eq l.1) | (rw [q.1]; exact Nat.le_of_eq l.2) | (rw [q.1]; exact rr) | (rw [q.1]; simp only [Nat.zero_add]; exact rows_setI (by have w := of_decide_eq_true (show decide _ = true from ok_t h17); have := h2.ts; omega)) | (rw [q.1]; rfl))⟩,
(by have o : okE x1.m x1.e x1.t = true := ok_t h17; have n : ¬ x1.m.ts.getD x1.e.toNat default = x1.t := (by simp only [Nat.zero_add] at *; assumption); have q := set_new o n; have l := ch_len h2 o; first | exact q.2.2.symm | (rw [q.1]; exact l.1.symm) | (rw [q.1]; exact l.2.symm) | (rw [q.1]; exact Nat.le_of_eq l.1) | (rw [q.1]; exact Nat.le_of_eq l.2) | (rw [q.1]; exact rr) | (rw [q.1]; simp only [Nat.zero_add]; exact rows_setI (by have w := of_decide_eq_true (show decide _ = true from ok_t h17); have := h2.ts; omega)) | (rw [q.1]; rfl)),trivial⟩,
⟨⟨(by have o : okE x1.m x1.e x1.t = true := ok_t h17; have n : ¬ x1.m.ts.getD x1.e.toNat default = x1.t := (by simp only [Nat.zero_add] at *; assumption); have q := set_new o n; have l := ch_len h2 o; first | exact q.2.2.symm | (rw [q.1]; exact l.1.symm) | (rw [q.1]; exact l.2.symm) | (rw [q.1]; exact Nat.le_of_eq l.1) | (rw [q.1]; exact Nat.le_of_eq l.2) | (rw [q.1]; exact rr) | (rw [q.1]; simp only [Nat.zero_add]; exact rows_setI (by have w := of_decide_eq_true (show decide _ = true from ok_t h17); have := h2.ts; omega)) | (rw [q.1]; rfl))⟩,
(by have o : okE x1.m x1.e x1.t = true := ok_t h17; have n : ¬ x1.m.ts.getD x1.e.toNat default = x1.t := (by simp only [Nat.zero_add] at *; assumption); have q := set_new o n; have l := ch_len h2 o; first | exact q.2.2.symm | (rw [q.1]; exact l.1.symm) | (rw [q.1]; exact l.2.symm) | (rw [q.1]; exact Nat.le_of_eq l.1) | (rw [q.1]; exact Nat.le_of_eq l.2) | (rw [q.1]; exact rr) | (rw [q.1]; simp only [Nat.zero_add]; exact rows_setI (by have w := of_decide_eq_true (show decide _ = true from ok_t h17); have := h2.ts; omega)) | (rw [q.1]; rfl))⟩,
⟨⟨(by have o : okE x1.m x1.e x1.t = true := ok_t h17; have n : ¬ x1.m.ts.getD x1.e.toNat default = x1.t := (by simp only [Nat.zero_add] at *; assumption); have q := set_new o n; have l := ch_len h2 o; first | exact q.2.2.symm | (rw [q.1]; exact l.1.symm) | (rw [q.1]; exact l.2.symm) | (rw [q.1]; exact Nat.le_of_eq l.1) | (rw [q.1]; exact Nat.le_of_eq l.2) | (rw [q.1]; exact rr) | (rw [q.1]; simp only [Nat.zero_add]; exact rows_setI (by have w := of_decide_eq_true (show decide _ = true from ok_t h17); have := h2.ts; omega)) | (rw [q.1]; rfl))⟩,
(by have o : okE x1.m x1.e x1.t = true := ok_t h17; have n : ¬ x1.m.ts.getD x1.e.toNat default = x1.t := (by simp only [Nat.zero_add] at *; assumption); have q := set_new o n; have l := ch_len h2 o; first | exact q.2.2.symm | (rw [q.1]; exact l.1.symm) | (rw [q.1]; exact l.2.symm) | (rw [q.1]; exact Nat.le_of_eq l.1) | (rw [q.1]; exact Nat.le_of_eq l.2) | (rw [q.1]; exact rr) | (rw [q.1]; simp only [Nat.zero_add]; exact rows_setI (by have w := of_decide_eq_true (show decide _ = true from ok_t h17); have := h2.ts; omega)) | (rw [q.1]; rfl))⟩,trivial,trivial,
⟨rl,
(by have o : okE x1.m x1.e x1.t = true := ok_t h17; have n : ¬ x1.m.ts.getD x1.e.toNat default = x1.t := (by simp only [Nat.zero_add] at *; assumption); have q := set_new o n; have l := ch_len h2 o; first | exact q.2.2.symm | (rw [q.1]; exact l.1.symm) | (rw [q.1]; exact l.2.symm) | (rw [q.1]; exact Nat.le_of_eq l.1) | (rw [q.1]; exact Nat.le_of_eq l.2) | (rw [q.1]; exact rr) | (rw [q.1]; simp only [Nat.zero_add]; exact rows_setI (by have w := of_decide_eq_true (show decide _ = true from ok_t h17); have := h2.ts; omega)) | (rw [q.1]; rfl))⟩,trivial⟩⟩⟩⟩⟩⟩)
theorem setT_good : Good Tryd.prog 16 setTC /\ FnOk Tryd.prog 16 := good_of tok conJa (fn := Tryd.f16) rfl (by decide +kernel) (fun _ => rfl) setT_keeps
end Go.Sym