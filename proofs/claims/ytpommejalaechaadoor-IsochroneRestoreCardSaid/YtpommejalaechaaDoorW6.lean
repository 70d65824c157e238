import Derived.Test.YtpommejalaechaaDoorW5
import Derived.Test.YtpommejalaechaaDoorR3
import Derived.Test.YtpommejalaechaaDoorG4
import Derived.Test.YtpommejalaechaaDoorXD
namespace Go.Sym
set_option linter.unusedVariables false
set_option linter.unusedSimpArgs false
open Go.Proofs
set_option maxRecDepth 100000
set_option maxHeartbeats 4000000
def rsz (x : NewX) : Nat := if rightB x = true then 1 else 0
theorem right_err {x : NewX} (h : rightB x = true) : errN x = 0 := by
 unfold rightB at h
 rw [Bool.and_eq_true] at h
 have := of_decide_eq_true h.1
 exact err_ok (by omega) (by omega) (by omega) h.2
theorem right_n {x : NewX} (h : rightB x = true) : 1 <= x.n /\ x.n <= 12 /\ x.es.length <= 40 := by
 unfold rightB at h
 rw [Bool.and_eq_true] at h
 exact of_decide_eq_true h.1
def netQC (md : Md) : CT where
 X := NewX
 pre := fun _ => True
 args := fun x => [.agg [.i .i64 x.n, .sl 100000 0 x.es.length]]
 g0 := fun x => [(100000, .rows .bor kE x.es.length (encL encE x.es))]
 res := fun x => .q 1 (rsz x)
 g1 := fun x => [(1, .rows md kG (rsz x) (encG x.g))]
def netQI (x : NewX) (id : Nat) : Option Inv := match id with
 | 100019 => some (cutT 19 false)
 | _ => none
def cfgNq : Cfg := ⟨T, [], [(32, .one rightC), (33, .one newC)], noInv, 20, {}⟩
theorem conNq : ConOk Tryd.prog cfgNq := ConL.ok (.cons (ConL.one right_good) (.cons (ConL.one new_good) .nil))
theorem rn_1 {x : NewX} (h : (!rightB x) = false) : errN x = 0 /\ szN x = 1 /\ rsz x = 1 /\ x.es.length <= 40 := by
 have q : rightB x = true := by simpa using h
 exact ⟨right_err q, if_pos (right_err q), if_pos q, (right_n q).2.2⟩
theorem rn_0 {x : NewX} (h : (!rightB x) = true) : rsz x = 0 := by
 have q : rightB x = false := by simpa using h
 unfold rsz; rw [q]; rfl
set_option maxRecDepth 100000 in
theorem netQo_keeps : Keeps cfgNq Tryd.f17 (netQC .own) netQI := Eq.mp (show ((∀ x1 : NewX, (True -> (∃ x3 : NewX, (True/\(((x1.n = x3.n/\((0=0 /\ x1.es.length = x3.es.length)/\True))/\True)/\((((RLe x3.es.length x1.es.length)/\(RowsEq [.int .i64, .int .i64, .int .i64] x3.es.length (encL encE x1.es) (encL encE x3.es)))/\True)/\((((!rightB x3) = true)-> ((rsz x1 = (0 : Nat))/\((rsz x1 = (0 : Nat))/\True)))/\(((!rightB x3) = false)-> (True/\((0=0/\(((0 : Nat) <= (0 : Nat))/\(((0 : Nat) + x1.es.length <= x1.es.length)/\((0 : Nat) + x1.es.length <= (1073741824 : Nat)))))/\(∃ x6 : NewX, ((x6.es.length <= (1073741824 : Nat))/\((x1.n = x6.n/\((0=0/\((0 : Nat) + x1.es.length = x6.es.length))/\True))/\((((RLe x6.es.length ((0 : Nat) + x1.es.length))/\(RowsEq [.int .i64, .int .i64, .int .i64] x6.es.length (appRows 0 (litRows (@List.nil (List D))) 0 (encL encE x1.es)) (encL encE x6.es)))/\True)/\((∃ x7 : Unit, (True/\((decide (errN x6 ≠ (0 : Int)) = false)/\True)))/\(∀ x8 : Unit, (True -> ((szN x6 = rsz x1)/\(((RLe (rsz x1) (szN x6))/\(RowsEq [.sl [.int .i64, .int .i64, .int .i64], .sl [.sl [.int .i64]], .sl [.sl [.int .i64]]] (rsz x1) (encG (NewX.g x6)) (encG (NewX.g x1))))/\True)))))))))))))))))))) = (Keeps cfgNq Tryd.f17 (netQC .own) netQI) by kernel_rfl) (fun x1 => fun h2 => ⟨(x1),trivial,
⟨⟨rfl,
⟨rfl,rfl⟩,trivial⟩,trivial⟩,
⟨⟨rl,rr⟩,trivial⟩,
fun h4 => ⟨(by exact rn_0 (x := x1) ‹_›),
(by exact rn_0 (x := x1) ‹_›),trivial⟩,
fun h5 => ⟨trivial,
⟨rfl,
(by omega),
(by omega),
(by have := (rn_1 (x := x1) ‹_›).2.2.2; omega)⟩,
(x1),
(by have := (rn_1 (x := x1) ‹_›).2.2.2; omega),
⟨rfl,
⟨rfl,
(by omega)⟩,trivial⟩,
⟨⟨⟨(by omega)⟩,app0⟩,trivial⟩,
⟨(default),trivial,
(by exact decide_eq_false (fun q => q (rn_1 (x := x1) ‹_›).1)),trivial⟩,
fun x8 => fun h9 => ⟨(by exact (rn_1 (x := x1) ‹_›).2.1.trans (rn_1 (x := x1) ‹_›).2.2.1.symm),
⟨⟨(by exact Nat.le_of_eq ((rn_1 (x := x1) ‹_›).2.2.1.trans (rn_1 (x := x1) ‹_›).2.1.symm))⟩,rr⟩,trivial⟩⟩⟩)
set_option maxRecDepth 100000 in
theorem netQb_keeps : Keeps cfgNq Tryd.f17 (netQC .bor) netQI := Eq.mp (show ((∀ x1 : NewX, (True -> (∃ x3 : NewX, (True/\(((x1.n = x3.n/\((0=0 /\ x1.es.length = x3.es.length)/\True))/\True)/\((((RLe x3.es.length x1.es.length)/\(RowsEq [.int .i64, .int .i64, .int .i64] x3.es.length (encL encE x1.es) (encL encE x3.es)))/\True)/\((((!rightB x3) = true)-> ((rsz x1 = (0 : Nat))/\((rsz x1 = (0 : Nat))/\True)))/\(((!rightB x3) = false)-> (True/\((0=0/\(((0 : Nat) <= (0 : Nat))/\(((0 : Nat) + x1.es.length <= x1.es.length)/\((0 : Nat) + x1.es.length <= (1073741824 : Nat)))))/\(∃ x6 : NewX, ((x6.es.length <= (1073741824 : Nat))/\((x1.n = x6.n/\((0=0/\((0 : Nat) + x1.es.length = x6.es.length))/\True))/\((((RLe x6.es.length ((0 : Nat) + x1.es.length))/\(RowsEq [.int .i64, .int .i64, .int .i64] x6.es.length (appRows 0 (litRows (@List.nil (List D))) 0 (encL encE x1.es)) (encL encE x6.es)))/\True)/\((∃ x7 : Unit, (True/\((decide (errN x6 ≠ (0 : Int)) = false)/\True)))/\(∀ x8 : Unit, (True -> ((szN x6 = rsz x1)/\(((RLe (rsz x1) (szN x6))/\(RowsEq [.sl [.int .i64, .int .i64, .int .i64], .sl [.sl [.int .i64]], .sl [.sl [.int .i64]]] (rsz x1) (encG (NewX.g x6)) (encG (NewX.g x1))))/\True)))))))))))))))))))) = (Keeps cfgNq Tryd.f17 (netQC .bor) netQI) by kernel_rfl) (fun x1 => fun h2 => ⟨(x1),trivial,
⟨⟨rfl,
⟨rfl,rfl⟩,trivial⟩,trivial⟩,
⟨⟨rl,rr⟩,trivial⟩,
fun h4 => ⟨(by exact rn_0 (x := x1) ‹_›),
(by exact rn_0 (x := x1) ‹_›),trivial⟩,
fun h5 => ⟨trivial,
⟨rfl,
(by omega),
(by omega),
(by have := (rn_1 (x := x1) ‹_›).2.2.2; omega)⟩,
(x1),
(by have := (rn_1 (x := x1) ‹_›).2.2.2; omega),
⟨rfl,
⟨rfl,
(by omega)⟩,trivial⟩,
⟨⟨⟨(by omega)⟩,app0⟩,trivial⟩,
⟨(default),trivial,
(by exact decide_eq_false (fun q => q (rn_1 (x := x1) ‹_›).1)),trivial⟩,
fun x8 => fun h9 => ⟨(by exact (rn_1 (x := x1) ‹_›).2.1.trans (rn_1 (x := x1) ‹_›).2.2.1.symm),
⟨⟨(by exact Nat.le_of_eq ((rn_1 (x := x1) ‹_›).2.2.1.trans (rn_1 (x := x1) ‹_›).2.1.symm))⟩,rr⟩,trivial⟩⟩⟩)
theorem netQo_good : Good Tryd.prog 17 (netQC .own) /\ FnOk Tryd.prog 17 := good_of tok conNq (fn := Tryd.f17) rfl (by decide +kernel) (fun _ => rfl) netQo_keeps
theorem netQb_good : Good Tryd.prog 17 (netQC .bor) /\ FnOk Tryd.prog 17 := good_of tok conNq (fn := Tryd.f17) rfl (by decide +kernel) (fun _ => rfl) netQb_keeps
def netYC (md : Md) : CT where
 X := NewX
 pre := fun x => rightB x = true
 args := (netQC md).args
 g0 := (netQC md).g0
 res := fun x => .p 1 0 0
 g1 := fun x => [(1, .rows md kG 1 (encG x.g))]
theorem den_p1 {ρ : Env} {l : Nat} {v : Value} (h : Den ρ (.q l 1) v) : Den ρ (.p l 0 0) v := by
 simp only [Den] at h ⊢
 rcases h with ⟨q, _⟩ | ⟨pl, _, q1, q2⟩
 ·cases q
 ·exact ⟨pl, q1, q2⟩
theorem netY_of {md : Md} (hs : ∀ x, ctSt (netYC md) x = true) (h : Good Tryd.prog 17 (netQC md) /\ FnOk Tryd.prog 17) : Good Tryd.prog 17 (netYC md) /\ FnOk Tryd.prog 17 := by
 refine ⟨good_say (ct := netQC md) (ct' := netYC md) (fun x => x) h.1 (fun x h => trivial) (fun _ => rfl) (fun _ => rfl) (fun x h => ?_) (fun x h ρ v hd => ?_) hs, h.2⟩
 ·have e : rsz x = 1 := if_pos h
  show [(1, Blk.rows md kG (rsz x) (encG x.g))] = _
  rw [e]; rfl
 ·have e : rsz x = 1 := if_pos h
  have hd : Den ρ (.q 1 (rsz x)) v := hd
  rw [e] at hd
  exact den_p1 hd
theorem netYo_good : Good Tryd.prog 17 (netYC .own) /\ FnOk Tryd.prog 17 := netY_of (fun _ => rfl) netQo_good
theorem netYb_good : Good Tryd.prog 17 (netYC .bor) /\ FnOk Tryd.prog 17 := netY_of (fun _ => rfl) netQb_good
structure PLX where
 n : Int
 es : List Ed
 ts : List Int
 acts : List Ac
def PLX.nw (x : PLX) : NewX := ⟨x.n, x.es⟩
def plG (x : PLX) : Gr := ⟨x.n.toNat, x.es⟩
def plOk (x : PLX) : Bool := rightB x.nw && decide (x.ts.length <= 60 /\ x.acts.length <= 30)
theorem plOk_iff {x : PLX} : plOk x = true ↔ rightB x.nw = true /\ x.ts.length <= 60 /\ x.acts.length <= 30 := by unfold plOk; rw [Bool.and_eq_true, decide_eq_true_iff]
theorem pl_n {x : PLX} (h : plOk x = true) : 1 <= x.n /\ x.n <= 12 /\ x.es.length <= 40 /\ x.ts.length <= 60 /\ x.acts.length <= 30 := by
 have q := plOk_iff.1 h
 have r := right_n q.1
 exact ⟨r.1, r.2.1, r.2.2, q.2⟩
def plS (x : PLX) : MS := ⟨plG x, ttL x.ts x.es.length, List.replicate x.n.toNat false, [], [], true⟩
def plAt (x : PLX) (k : Nat) : MS := (x.acts.take k).foldl doM (plS x)
def plM (x : PLX) : MS := plAt x x.acts.length
theorem plAt_succ {x : PLX} {k : Nat} (h : (k : Int) < x.acts.length) : doM (plAt x k) (x.acts.getD k default) = plAt x (k + 1) := by
 unfold plAt; rw [take_succ_getD (d := default) (by omega), List.foldl_append]; rfl
theorem plS_ok {x : PLX} (h : plOk x = true) : MSok (plS x) := by
 have q := plOk_iff.1 h
 have r := pl_n h
 have g : GOk (plG x) := by
  have h2 := q.1
  unfold rightB at h2
  rw [Bool.and_eq_true] at h2
  exact gok (x := x.nw) (by show ¬ x.n < 1; omega) (by show ¬ 4096 < x.n; omega) (by show ¬ _; have : x.nw.es.length = x.es.length := rfl; omega) h2.2
 refine ⟨g, by show x.n.toNat <= 12; omega, ttL_len _ _, fun i hi => ?_, by show (List.replicate x.n.toNat false).length = x.n.toNat; simp, by show 0 <= 12; omega, by show 0 <= 12; omega, fun q => by cases q⟩
 have hi : i < (ttL x.ts x.es.length).length := hi
 rw [ttL_len] at hi
 show (ttL x.ts x.es.length).getD i default = 4611686018427387904 ∨ (1 <= (ttL x.ts x.es.length).getD i default /\ (ttL x.ts x.es.length).getD i default <= 1048576)
 rw [ttL_at hi]
 rcases tt_ok x.ts i with q | q
 ·exact .inl q
 ·exact .inr q
theorem fold_ok : ∀ (l : List Ac) {m : MS}, MSok m -> MSok (l.foldl doM m) /\ (l.foldl doM m).g = m.g
 | [], m, h => ⟨h, rfl⟩
 | a :: l, m, h => by
  have := fold_ok l (doM_ok h a)
  exact ⟨this.1, this.2.trans (doM_g m a)⟩
theorem plAt_ok {x : PLX} (h : plOk x = true) (k : Nat) : MSok (plAt x k) /\ (plAt x k).g = plG x := fold_ok _ (plS_ok h)
theorem src0 (n : Nat) : srcL (List.replicate n false) = [] := by
 rw [List.eq_nil_iff_forall_not_mem]
 intro v hv
 have := srcL_mem.1 hv
 rw [List.length_replicate] at this
 have h3 := this.2.2
 rw [List.getD_eq_getElem?_getD, List.getElem?_replicate, if_pos (by omega)] at h3
 cases h3
def plA (x : PLX) : SV := .agg [.i .i64 x.n, .sl 100000 0 x.es.length, .sl 100001 0 x.ts.length, .sl 100002 0 x.acts.length]
def plH (x : PLX) : List (Nat × Blk) := [(100000, .rows .bor kE x.es.length (encL encE x.es)), (100001, .rows .bor k1 x.ts.length (encL encI x.ts)), (100002, .rows .bor kA x.acts.length (encL encA x.acts))]
def isoC (m : MS) (g a : Nat) : List SV := [.p g 0 0, .sl (a + 1) 0 m.g.es.length, .sl (a + 2) 0 m.g.n, .sl (a + 3) 0 m.dist.length, .sl (a + 4) 0 m.so.length, .b m.od]
def isoB (m : MS) (g a : Nat) : List (Nat × Blk) := [(a, .one .own (isoC m g a)), (a + 1, .rows .own k1 m.g.es.length (encL encI m.ts)), (a + 2, .rows .own kB m.g.n (encL encBo m.src)), (a + 3, .rows .own k1 m.dist.length (encL encI m.dist)), (a + 4, .rows .own k1 m.so.length (encL encI m.so))]
def refA (m : MS) (e a : Nat) (n : Int) : SV := .agg [.i .i64 n, .sl e 0 m.g.es.length, .sl a 0 m.g.es.length, .sl (a + 1) 0 (srcL m.src).length]
def refB (m : MS) (a : Nat) : List (Nat × Blk) := [(a, .rows .bor k1 m.g.es.length (encL encI m.ts)), (a + 1, .rows .bor k1 (srcL m.src).length (encL encI (srcL m.src)))]
def plYC : CT where
 X := PLX
 pre := fun x => plOk x = true
 args := fun x => [plA x]
 g0 := plH
 res := fun x => .tup [.p 2 0 0, refA (plM x) 100000 7 x.n, .b true]
 g1 := fun x => (1, .rows .bor kG 1 (encG (plM x).g)) :: isoB (plM x) 1 2 ++ refB (plM x) 7
def plYI (x : PLX) (id : Nat) : Option Inv := match id with
 | 100029 => some (cutT 29 false)
 | 100050 => some (cutT 50 false)
 | 0 => some { X := Nat, ok := fun k => k <= x.acts.length, fr := fun k => [(55, .i .i64 k), (9, .b true), (6, .p 37 0 0)],
               hp := fun k => [(37, .one .own [.p 15 0 0, .sl 2037 0 x.es.length, .sl 4037 0 x.n.toNat, .sl 195 0 (plAt x k).dist.length, .sl 196 0 (plAt x k).so.length, .b (plAt x k).od]), (2037, .rows .own k1 x.es.length (encL encI (plAt x k).ts)), (4037, .rows .own kB x.n.toNat (encL encBo (plAt x k).src)),
                (195, .rows .own k1 (plAt x k).dist.length (encL encI (plAt x k).dist)), (196, .rows .own k1 (plAt x k).so.length (encL encI (plAt x k).so)),
                (8, .one .own [.i .i64 x.n, .sl 100000 0 x.es.length, .sl 197 0 x.es.length, .sl 198 0 (srcL (plAt x k).src).length]), (197, .rows .bor k1 x.es.length (encL encI (plAt x k).ts)), (198, .rows .bor k1 (srcL (plAt x k).src).length (encL encI (srcL (plAt x k).src)))], me := fun k => x.acts.length - k,
               inn := fun k id => match id with
                | 100009 => some (cutT 9 true)
                | _ => none }
 | _ => none
def cfgPl : Cfg := ⟨T, [], [(17, .one (netYC .bor)), (18, .one newIC), (25, .one enewC), (26, .one doC)], noInv, 14, {}⟩
theorem conPl : ConOk Tryd.prog cfgPl := ConL.ok (.cons (ConL.one netYb_good) (.cons (ConL.one newI_good) (.cons (ConL.one enew_good) (.cons (ConL.one do_good) .nil))))
theorem pm_g {x : PLX} (h : plOk x = true) (k : Nat) : (plAt x k).g.es.length = x.es.length /\ (plAt x k).g.n = x.n.toNat := by rw [(plAt_ok h k).2]; exact ⟨rfl, rfl⟩
theorem pm_f {x : PLX} {k : Nat} (h : k <= x.acts.length) (h2 : ¬ (k : Int) < x.acts.length) : plAt x k = plM x := by unfold plM; rw [show k = x.acts.length by omega]
theorem pm_s (x : PLX) : srcL (plAt x 0).src = [] := src0 _
theorem rowsG {a b : Gr} (h : a = b) : RowsEq kG 1 (encG a) (encG b) := h ▸ RowsEq.rfl'
theorem pm_gg {x : PLX} (h : plOk x = true) (k : Nat) : (plAt x k).g = plG x := (plAt_ok h k).2
theorem pm_ts {x : PLX} (h : plOk x = true) (k : Nat) : (plAt x k).ts.length = x.es.length := (plAt_ok h k).1.ts.trans (pm_g h k).1
theorem pm_n {x : PLX} (h : plOk x = true) (k : Nat) : (((plAt x k).g.n : Nat) : Int) = x.n := by rw [(pm_g h k).2]; have := pl_n h; omega
set_option maxRecDepth 100000 in
theorem plY_keeps : Keeps cfgPl Tryd.f8 plYC plYI := Eq.mp (show ((∀ x1 : PLX, ((plOk x1 = true)-> (∃ x3 : NewX, ((rightB x3 = true)/\((((PLX.n x1 = x3.n)/\((0=0/\((PLX.es x1).length = x3.es.length))/\True))/\True)/\((((RLe x3.es.length (PLX.es x1).length)/\(RowsEq [.int .i64, .int .i64, .int .i64] x3.es.length (encL encE (PLX.es x1)) (encL encE x3.es)))/\True)/\((((decide (60 < (↑(PLX.ts x1).length : Int)) = false)-> (∃ x5 : Unit, (True/\((decide (30 < (↑(PLX.acts x1).length : Int)) = false)/\True))))/\((decide (60 < (↑(PLX.ts x1).length : Int)) = true)-> (∃ x7 : Unit, (True/\(true = false/\True)))))/\(∀ x8 : Unit, (True -> (True/\((0=0/\(((0 : Nat) <= (0 : Nat))/\(((0 : Nat) + (PLX.ts x1).length <= (PLX.ts x1).length)/\((0 : Nat) + (PLX.ts x1).length <= (1073741824 : Nat)))))/\(∃ x10 : NIx, ((GOk x10.g)/\(((0=0 /\ 0=0)/\((0=0/\((0 : Nat) + (PLX.ts x1).length = x10.ts.length))/\True))/\(((RLe 1 1/\(RowsEq [.sl [.int .i64, .int .i64, .int .i64], .sl [.sl [.int .i64]], .sl [.sl [.int .i64]]] 1 (encG (NewX.g x3)) (encG x10.g)))/\(((RLe x10.ts.length ((0 : Nat) + (PLX.ts x1).length))/\(RowsEq [.int .i64] x10.ts.length (appRows 0 (litRows (@List.nil (List D))) 0 (encL encI (PLX.ts x1))) (encL encI x10.ts)))/\True))/\(∃ x11 : ENx, ((x11.g.es.length <= (1048576 : Nat))/\((((PLX.n x1 = (x11.g.n : Int))/\((0=0/\((PLX.es x1).length = x11.g.es.length))/\True))/\((0=0/\((PLX.ts x1).length = x11.ts.length))/\True))/\((((RLe x11.g.es.length (PLX.es x1).length)/\(RowsEq [.int .i64, .int .i64, .int .i64] x11.g.es.length (encL encE (PLX.es x1)) (encL encE x11.g.es)))/\(((RLe x11.ts.length (PLX.ts x1).length)/\(RI x11.ts.length (PLX.ts x1) x11.ts))/\True))/\((((decide ((0 : Int) ≠ (0 : Int)) = false)-> (∃ x13 : Unit, (True/\(false = false/\True))))/\((decide ((0 : Int) ≠ (0 : Int)) = true)-> (∃ x15 : Unit, (True/\(true = false/\True)))))/\(∀ x16 : Unit, (True -> (∃ x18 : Nat, (((x18 <= (PLX.acts x1).length)/\(((0 = (x18 : Int))/\(true = true/\((0=0 /\ 0=0)/\(((↑(PLX.acts x1).length : Int) = (↑(PLX.acts x1).length : Int))/\((0=0/\((PLX.acts x1).length = (PLX.acts x1).length))/\((0=0 /\ 0=0)/\(((0 : Int) = 0)/\((0=0 /\ 0=0)/\((0=0 /\ 0=0)/\(false = false/\((0=0 /\ 0=0)/\(True/\((0=0 /\ 0=0)/\(((PLX.n x1 = PLX.n x1)/\((0=0/\((PLX.es x1).length = (PLX.es x1).length))/\((0=0/\((PLX.ts x1).length = (PLX.ts x1).length))/\((0=0/\((PLX.acts x1).length = (PLX.acts x1).length))/\True))))/\True))))))))))))))/\(((0=0 /\ 0=0)/\((0=0/\(x10.g.es.length = (PLX.es x1).length))/\((0=0/\(x10.g.n = Int.toNat (PLX.n x1)))/\((True/\(0=0/\((plAt x1 x18).dist.length = (0 : Nat))))/\((True/\(0=0/\((plAt x1 x18).so.length = (0 : Nat))))/\((true = (plAt x1 x18).od)/\True))))))/\(((RLe (PLX.es x1).length x10.g.es.length)/\(RowsEq [.int .i64] (PLX.es x1).length (encL encI (ttL x10.ts x10.g.es.length)) (encL encI (plAt x1 x18).ts)))/\(((RLe (Int.toNat (PLX.n x1)) x10.g.n)/\(RowsEq (Kd.bool :: []) (Int.toNat (PLX.n x1)) (encL encBo (List.replicate x10.g.n false)) (encL encBo (plAt x1 x18).src)))/\(((plAt x1 x18).dist.length = (0 : Nat))/\(((plAt x1 x18).so.length = (0 : Nat))/\((((x11.g.n : Int) = PLX.n x1)/\((0=0/\(x11.g.es.length = (PLX.es x1).length))/\((0=0/\(x11.g.es.length = (PLX.es x1).length))/\((True/\(0=0/\((srcL (plAt x1 x18).src).length = (0 : Nat))))/\True))))/\(((RLe (PLX.es x1).length x11.g.es.length)/\(RowsEq [.int .i64] (PLX.es x1).length (encL encI (ttL x11.ts x11.g.es.length)) (encL encI (plAt x1 x18).ts)))/\(((srcL (plAt x1 x18).src).length = (0 : Nat))/\(((RLe ((0 : Nat) + (PLX.ts x1).length) ((0 : Nat) + (PLX.ts x1).length))/\(RowsEq [.int .i64] ((0 : Nat) + (PLX.ts x1).length) (appRows 0 (litRows (@List.nil (List D))) 0 (encL encI (PLX.ts x1))) (appRows 0 (litRows (@List.nil (List D))) 0 (encL encI (PLX.ts x1)))))/\((RLe 1 1/\(RowsEq [.sl [.int .i64, .int .i64, .int .i64], .sl [.sl [.int .i64]], .sl [.sl [.int .i64]]] 1 (encG (NewX.g x3)) (encG (NewX.g x3))))/\((((0 : Int) = 0)/\(True/\(True/\(True/\True))))/\(((PLX.n x1 = PLX.n x1)/\((0=0/\((PLX.es x1).length = (PLX.es x1).length))/\((0=0/\((PLX.ts x1).length = (PLX.ts x1).length))/\((0=0/\((PLX.acts x1).length = (PLX.acts x1).length))/\True))))/\(((RLe (PLX.es x1).length (PLX.es x1).length)/\(RowsEq [.int .i64, .int .i64, .int .i64] (PLX.es x1).length (encL encE (PLX.es x1)) (encL encE (PLX.es x1))))/\(((RLe (PLX.ts x1).length (PLX.ts x1).length)/\(RowsEq [.int .i64] (PLX.ts x1).length (encL encI (PLX.ts x1)) (encL encI (PLX.ts x1))))/\(((RLe (PLX.acts x1).length (PLX.acts x1).length)/\(RowsEq [.int .i64, .int .i64, .int .i64] (PLX.acts x1).length (encL encA (PLX.acts x1)) (encL encA (PLX.acts x1))))/\True)))))))))))))))))/\(∀ x19 : Nat, ((x19 <= (PLX.acts x1).length)-> (((decide ((x19 : Int) < (↑(PLX.acts x1).length : Int)) = true)-> ((((0 : Int) <= (x19 : Int))/\((x19 : Int) < (↑(PLX.acts x1).length : Int)))/\((0 + Int.toNat (x19 : Int) < (PLX.acts x1).length)/\(∃ x22 : DoX, ((MSok x22.m)/\(((0=0 /\ 0=0)/\(((PLX.n x1 = (↑(rF x22.m).g.n : Int))/\((0=0/\((PLX.es x1).length = (rF x22.m).g.es.length))/\((0=0/\((PLX.es x1).length = (rF x22.m).ts.length))/\((0=0/\((srcL (plAt x1 x19).src).length = (rF x22.m).src.length))/\True))))/\(((((PLX.acts x1).getD (0 + Int.toNat (x19 : Int)) default).k = x22.a.k)/\((((PLX.acts x1).getD (0 + Int.toNat (x19 : Int)) default).a = x22.a.a)/\((((PLX.acts x1).getD (0 + Int.toNat (x19 : Int)) default).t = x22.a.t)/\True)))/\True)))/\((((0=0 /\ 0=0)/\((0=0/\((PLX.es x1).length = x22.m.g.es.length))/\((0=0/\(Int.toNat (PLX.n x1) = x22.m.g.n))/\((0=0/\((plAt x1 x19).dist.length = x22.m.dist.length))/\((0=0/\((plAt x1 x19).so.length = x22.m.so.length))/\(((plAt x1 x19).od = x22.m.od)/\True))))))/\((RLe 1 1/\(RowsEq [.sl [.int .i64, .int .i64, .int .i64], .sl [.sl [.int .i64]], .sl [.sl [.int .i64]]] 1 (encG (NewX.g x3)) (encG x22.m.g)))/\(((RLe x22.m.g.es.length (PLX.es x1).length)/\(RI x22.m.g.es.length (plAt x1 x19).ts x22.m.ts))/\(((RLe x22.m.g.n (Int.toNat (PLX.n x1)))/\(RowsEq (Kd.bool :: []) x22.m.g.n (encL encBo (plAt x1 x19).src) (encL encBo x22.m.src)))/\(((RLe x22.m.dist.length (plAt x1 x19).dist.length)/\(RI x22.m.dist.length (plAt x1 x19).dist x22.m.dist))/\(((RLe x22.m.so.length (plAt x1 x19).so.length)/\(RI x22.m.so.length (plAt x1 x19).so x22.m.so))/\(((RLe (rF x22.m).g.es.length (PLX.es x1).length)/\(RowsEq [.int .i64, .int .i64, .int .i64] (rF x22.m).g.es.length (encL encE (PLX.es x1)) (encL encE (rF x22.m).g.es)))/\(((RLe (rF x22.m).ts.length (PLX.es x1).length)/\(RowsEq [.int .i64] (rF x22.m).ts.length (encL encI (plAt x1 x19).ts) (encL encI (rF x22.m).ts)))/\(((RLe (rF x22.m).src.length (srcL (plAt x1 x19).src).length)/\(RowsEq [.int .i64] (rF x22.m).src.length (encL encI (srcL (plAt x1 x19).src)) (encL encI (rF x22.m).src)))/\True)))))))))/\(((true = true -> (∃ x24 : Unit, (True/\(true = true/\True))))/\(true = false -> (∃ x26 : Unit, (True/\(false = true/\True)))))/\(∀ x27 : Unit, (True -> ((((-9223372036854775808 : Int) <= (x19 : Int) + 1)/\((x19 : Int) + 1 <= (9223372036854775807 : Int)))/\(∃ x29 : Nat, (((PLX.acts x1).length - x29 < (PLX.acts x1).length - x19)/\((x29 <= (PLX.acts x1).length)/\((((x19 : Int) + 1 = (x29 : Int))/\(true = true/\((0=0 /\ 0=0)/\(((↑(PLX.acts x1).length : Int) = (↑(PLX.acts x1).length : Int))/\((0=0/\((PLX.acts x1).length = (PLX.acts x1).length))/\((0=0 /\ 0=0)/\(((0 : Int) = 0)/\((0=0 /\ 0=0)/\((0=0 /\ 0=0)/\(false = false/\((0=0 /\ 0=0)/\(True/\((0=0 /\ 0=0)/\(((PLX.n x1 = PLX.n x1)/\((0=0/\((PLX.es x1).length = (PLX.es x1).length))/\((0=0/\((PLX.ts x1).length = (PLX.ts x1).length))/\((0=0/\((PLX.acts x1).length = (PLX.acts x1).length))/\True))))/\True))))))))))))))/\(((0=0 /\ 0=0)/\((0=0/\(x22.m.g.es.length = (PLX.es x1).length))/\((0=0/\(x22.m.g.n = Int.toNat (PLX.n x1)))/\((0=0/\((doM x22.m x22.a).dist.length = (plAt x1 x29).dist.length))/\((0=0/\((doM x22.m x22.a).so.length = (plAt x1 x29).so.length))/\(((doM x22.m x22.a).od = (plAt x1 x29).od)/\True))))))/\(((RLe (PLX.es x1).length x22.m.g.es.length)/\(RowsEq [.int .i64] (PLX.es x1).length (encL encI (doM x22.m x22.a).ts) (encL encI (plAt x1 x29).ts)))/\(((RLe (Int.toNat (PLX.n x1)) x22.m.g.n)/\(RowsEq (Kd.bool :: []) (Int.toNat (PLX.n x1)) (encL encBo (doM x22.m x22.a).src) (encL encBo (plAt x1 x29).src)))/\(((RLe (plAt x1 x29).dist.length (doM x22.m x22.a).dist.length)/\(RowsEq [.int .i64] (plAt x1 x29).dist.length (encL encI (doM x22.m x22.a).dist) (encL encI (plAt x1 x29).dist)))/\(((RLe (plAt x1 x29).so.length (doM x22.m x22.a).so.length)/\(RowsEq [.int .i64] (plAt x1 x29).so.length (encL encI (doM x22.m x22.a).so) (encL encI (plAt x1 x29).so)))/\((((x22.m.g.n : Int) = PLX.n x1)/\((0=0/\(x22.m.g.es.length = (PLX.es x1).length))/\((0=0/\(x22.m.g.es.length = (PLX.es x1).length))/\((0=0/\((srcL (doM x22.m x22.a).src).length = (srcL (plAt x1 x29).src).length))/\True))))/\(((RLe (PLX.es x1).length x22.m.g.es.length)/\(RowsEq [.int .i64] (PLX.es x1).length (encL encI (doM x22.m x22.a).ts) (encL encI (plAt x1 x29).ts)))/\(((RLe (srcL (plAt x1 x29).src).length (srcL (doM x22.m x22.a).src).length)/\(RowsEq [.int .i64] (srcL (plAt x1 x29).src).length (encL encI (srcL (doM x22.m x22.a).src)) (encL encI (srcL (plAt x1 x29).src))))/\(((RLe ((0 : Nat) + (PLX.ts x1).length) ((0 : Nat) + (PLX.ts x1).length))/\(RowsEq [.int .i64] ((0 : Nat) + (PLX.ts x1).length) (appRows 0 (litRows (@List.nil (List D))) 0 (encL encI (PLX.ts x1))) (appRows 0 (litRows (@List.nil (List D))) 0 (encL encI (PLX.ts x1)))))/\((RLe 1 1/\(RowsEq [.sl [.int .i64, .int .i64, .int .i64], .sl [.sl [.int .i64]], .sl [.sl [.int .i64]]] 1 (encG (NewX.g x3)) (encG (NewX.g x3))))/\((((0 : Int) = 0)/\(True/\(True/\(True/\True))))/\(((PLX.n x1 = PLX.n x1)/\((0=0/\((PLX.es x1).length = (PLX.es x1).length))/\((0=0/\((PLX.ts x1).length = (PLX.ts x1).length))/\((0=0/\((PLX.acts x1).length = (PLX.acts x1).length))/\True))))/\(((RLe (PLX.es x1).length (PLX.es x1).length)/\(RowsEq [.int .i64, .int .i64, .int .i64] (PLX.es x1).length (encL encE (PLX.es x1)) (encL encE (PLX.es x1))))/\(((RLe (PLX.ts x1).length (PLX.ts x1).length)/\(RowsEq [.int .i64] (PLX.ts x1).length (encL encI (PLX.ts x1)) (encL encI (PLX.ts x1))))/\(((RLe (PLX.acts x1).length (PLX.acts x1).length)/\(RowsEq [.int .i64, .int .i64, .int .i64] (PLX.acts x1).length (encL encA (PLX.acts x1)) (encL encA (PLX.acts x1))))/\True))))))))))))))))))))))))))))))/\((decide ((x19 : Int) < (↑(PLX.acts x1).length : Int)) = false)-> (((0=0 /\ 0=0)/\(((PLX.n x1 = PLX.n x1)/\((0=0/\((PLX.es x1).length = (plM x1).g.es.length))/\((0=0/\((PLX.es x1).length = (plM x1).g.es.length))/\((0=0/\((srcL (plAt x1 x19).src).length = (srcL (plM x1).src).length))/\True))))/\(true = true/\True)))/\((RLe 1 1/\(RowsEq [.sl [.int .i64, .int .i64, .int .i64], .sl [.sl [.int .i64]], .sl [.sl [.int .i64]]] 1 (encG (NewX.g x3)) (encG (plM x1).g)))/\(((0=0 /\ 0=0)/\((0=0/\((PLX.es x1).length = (plM x1).g.es.length))/\((0=0/\(Int.toNat (PLX.n x1) = (plM x1).g.n))/\((0=0/\((plAt x1 x19).dist.length = (plM x1).dist.length))/\((0=0/\((plAt x1 x19).so.length = (plM x1).so.length))/\(((plAt x1 x19).od = (plM x1).od)/\True))))))/\(((RLe (plM x1).g.es.length (PLX.es x1).length)/\(RowsEq [.int .i64] (plM x1).g.es.length (encL encI (plAt x1 x19).ts) (encL encI (plM x1).ts)))/\(((RLe (plM x1).g.n (Int.toNat (PLX.n x1)))/\(RowsEq (Kd.bool :: []) (plM x1).g.n (encL encBo (plAt x1 x19).src) (encL encBo (plM x1).src)))/\(((RLe (plM x1).dist.length (plAt x1 x19).dist.length)/\(RowsEq [.int .i64] (plM x1).dist.length (encL encI (plAt x1 x19).dist) (encL encI (plM x1).dist)))/\(((RLe (plM x1).so.length (plAt x1 x19).so.length)/\(RowsEq [.int .i64] (plM x1).so.length (encL encI (plAt x1 x19).so) (encL encI (plM x1).so)))/\(((RLe (plM x1).g.es.length (PLX.es x1).length)/\(RowsEq [.int .i64] (plM x1).g.es.length (encL encI (plAt x1 x19).ts) (encL encI (plM x1).ts)))/\(((RLe (srcL (plM x1).src).length (srcL (plAt x1 x19).src).length)/\(RowsEq [.int .i64] (srcL (plM x1).src).length (encL encI (srcL (plAt x1 x19).src)) (encL encI (srcL (plM x1).src))))/\True)))))))))))))))))))))))))))))))))))))) = (Keeps cfgPl Tryd.f8 plYC plYI) by kernel_rfl) (fun x1 => fun h2 => ⟨(PLX.nw x1),
((plOk_iff.1 h2).1),
⟨⟨rfl,
⟨rfl,rfl⟩,trivial⟩,trivial⟩,
⟨⟨⟨(by have := pl_n h2; show x1.es.length <= _; omega)⟩,rr⟩,trivial⟩,
⟨fun g4 => have h4 := dF g4; ⟨(default),trivial,
(by have := pl_n h2; exact decide_eq_false (by omega)),trivial⟩,
fun g6 => have h6 := dT g6; ⟨(default),trivial,
(by have := pl_n h2; omega),trivial⟩⟩,
fun x8 => fun h9 => ⟨trivial,
⟨rfl,
(by omega),
(by omega),
(by have := pl_n h2; omega)⟩,
({ g := plG x1, ts := PLX.ts x1 : NIx }),
((plS_ok h2).g),
⟨⟨rfl,rfl⟩,
⟨rfl,
(by (try dsimp only at *); omega)⟩,trivial⟩,
⟨⟨rl,rr⟩,
⟨⟨(by (try dsimp only at *); omega)⟩,app0⟩,trivial⟩,
({ g := plG x1, ts := PLX.ts x1 : ENx }),
(by have := pl_n h2; show x1.es.length <= _; omega),
⟨⟨(by show x1.n = ((x1.n.toNat : Nat) : Int); have := pl_n h2; omega),
⟨rfl,rfl⟩,trivial⟩,
⟨rfl,rfl⟩,trivial⟩,
⟨⟨⟨(by have := pl_n h2; show x1.es.length <= _; omega)⟩,rr⟩,
⟨rl,rr⟩,trivial⟩,
⟨fun g12 => have h12 := dF g12; ⟨(default),trivial,rfl,trivial⟩,
fun g14 => have h14 := dT g14; ⟨(default),trivial,
(by omega),trivial⟩⟩,
fun x16 => fun h17 => ⟨((0 : Nat)),
⟨(by omega),
⟨(by omega),rfl,
⟨rfl,rfl⟩,rfl,
⟨rfl,rfl⟩,
⟨rfl,rfl⟩,rfl,
⟨rfl,rfl⟩,
⟨rfl,rfl⟩,rfl,
⟨rfl,rfl⟩,trivial,
⟨rfl,rfl⟩,
⟨rfl,
⟨rfl,rfl⟩,
⟨rfl,rfl⟩,
⟨rfl,rfl⟩,trivial⟩,trivial⟩,
⟨⟨rfl,rfl⟩,
⟨rfl,rfl⟩,
⟨rfl,rfl⟩,
⟨trivial,rfl,rfl⟩,
⟨trivial,rfl,rfl⟩,rfl,trivial⟩,
⟨⟨(Nat.le_refl _)⟩,rr⟩,
⟨⟨(Nat.le_refl _)⟩,rr⟩,rfl,rfl,
⟨(by show ((x1.n.toNat : Nat) : Int) = x1.n; have := pl_n h2; omega),
⟨rfl,rfl⟩,
⟨rfl,rfl⟩,
⟨trivial,rfl,
(congrArg List.length (pm_s x1))⟩,trivial⟩,
⟨⟨(Nat.le_refl _)⟩,rr⟩,
(congrArg List.length (pm_s x1)),
⟨rl,rr⟩,
⟨rl,rr⟩,
⟨rfl,trivial,trivial,trivial,trivial⟩,
⟨rfl,
⟨rfl,rfl⟩,
⟨rfl,rfl⟩,
⟨rfl,rfl⟩,trivial⟩,
⟨rl,rr⟩,
⟨rl,rr⟩,
⟨rl,rr⟩,trivial⟩,
fun x19 => fun h20 => ⟨fun g21 => have h21 := dT g21; ⟨⟨(by omega),
(by omega)⟩,
(by omega),
({ m := plAt x1 x19, a := List.getD (PLX.acts x1) ((0 : Nat) + Int.toNat (↑x19 : Int)) default : DoX }),
((plAt_ok h2 _).1),
⟨⟨rfl,rfl⟩,
⟨((pm_n h2 _).symm),
⟨rfl,
((pm_g h2 _).1.symm)⟩,
⟨rfl,
((pm_ts h2 _).symm)⟩,
⟨rfl,rfl⟩,trivial⟩,
⟨rfl,rfl,rfl,trivial⟩,trivial⟩,
⟨⟨⟨rfl,rfl⟩,
⟨rfl,
((pm_g h2 _).1.symm)⟩,
⟨rfl,
((pm_g h2 _).2.symm)⟩,
⟨rfl,rfl⟩,
⟨rfl,rfl⟩,rfl,trivial⟩,
⟨rl,
(rowsG (pm_gg h2 _).symm)⟩,
⟨⟨(Nat.le_of_eq (pm_g h2 _).1)⟩,rr⟩,
⟨⟨(Nat.le_of_eq (pm_g h2 _).2)⟩,rr⟩,
⟨rl,rr⟩,
⟨rl,rr⟩,
⟨⟨(Nat.le_of_eq (pm_g h2 _).1)⟩,
(rowsE (congrArg Gr.es (pm_gg h2 _)).symm)⟩,
⟨⟨(Nat.le_of_eq (pm_ts h2 _))⟩,rr⟩,
⟨⟨(Nat.le_refl _)⟩,rr⟩,trivial⟩,
⟨fun h23 => ⟨(default),trivial,rfl,trivial⟩,
fun h25 => ⟨(default),trivial,
(by grind),trivial⟩⟩,
fun x27 => fun h28 => ⟨⟨(by omega),
(by have := pl_n h2; omega)⟩,
(x19 + (1 : Nat)),
(by omega),
(by omega),
⟨(by omega),rfl,
⟨rfl,rfl⟩,rfl,
⟨rfl,rfl⟩,
⟨rfl,rfl⟩,rfl,
⟨rfl,rfl⟩,
⟨rfl,rfl⟩,rfl,
⟨rfl,rfl⟩,trivial,
⟨rfl,rfl⟩,
⟨rfl,
⟨rfl,rfl⟩,
⟨rfl,rfl⟩,
⟨rfl,rfl⟩,trivial⟩,trivial⟩,
⟨⟨rfl,rfl⟩,
⟨rfl,
((pm_g h2 _).1)⟩,
⟨rfl,
((pm_g h2 _).2)⟩,
⟨rfl,
(by (try simp only [nat0] at *); have e := plAt_succ (x := x1) h21; exact congrArg (fun m : MS => m.dist.length) e)⟩,
⟨rfl,
(by (try simp only [nat0] at *); have e := plAt_succ (x := x1) h21; exact congrArg (fun m : MS => m.so.length) e)⟩,
(by (try simp only [nat0] at *); have e := plAt_succ (x := x1) h21; exact congrArg (fun m : MS => m.od) e),trivial⟩,
⟨⟨(Nat.le_of_eq (pm_g h2 _).1.symm)⟩,
(by (try simp only [nat0] at *); have e := plAt_succ (x := x1) h21; exact rowsE (congrArg MS.ts e))⟩,
⟨⟨(Nat.le_of_eq (pm_g h2 _).2.symm)⟩,
(by (try simp only [nat0] at *); have e := plAt_succ (x := x1) h21; exact rowsE (congrArg MS.src e))⟩,
⟨⟨(by (try simp only [nat0] at *); have e := plAt_succ (x := x1) h21; exact Nat.le_of_eq (congrArg (fun m : MS => m.dist.length) e).symm)⟩,
(by (try simp only [nat0] at *); have e := plAt_succ (x := x1) h21; exact rowsE (congrArg MS.dist e))⟩,
⟨⟨(by (try simp only [nat0] at *); have e := plAt_succ (x := x1) h21; exact Nat.le_of_eq (congrArg (fun m : MS => m.so.length) e).symm)⟩,
(by (try simp only [nat0] at *); have e := plAt_succ (x := x1) h21; exact rowsE (congrArg MS.so e))⟩,
⟨(pm_n h2 _),
⟨rfl,
((pm_g h2 _).1)⟩,
⟨rfl,
((pm_g h2 _).1)⟩,
⟨rfl,
(by (try simp only [nat0] at *); have e := plAt_succ (x := x1) h21; exact congrArg (fun m : MS => (srcL m.src).length) e)⟩,trivial⟩,
⟨⟨(Nat.le_of_eq (pm_g h2 _).1.symm)⟩,
(by (try simp only [nat0] at *); have e := plAt_succ (x := x1) h21; exact rowsE (congrArg MS.ts e))⟩,
⟨⟨(by (try simp only [nat0] at *); have e := plAt_succ (x := x1) h21; exact Nat.le_of_eq (congrArg (fun m : MS => (srcL m.src).length) e).symm)⟩,
(by (try simp only [nat0] at *); have e := plAt_succ (x := x1) h21; exact rowsE (congrArg (fun m : MS => srcL m.src) e))⟩,
⟨rl,rr⟩,
⟨rl,rr⟩,
⟨rfl,trivial,trivial,trivial,trivial⟩,
⟨rfl,
⟨rfl,rfl⟩,
⟨rfl,rfl⟩,
⟨rfl,rfl⟩,trivial⟩,
⟨rl,rr⟩,
⟨rl,rr⟩,
⟨rl,rr⟩,trivial⟩⟩,
fun g30 => have h30 := dF g30; ⟨⟨⟨rfl,rfl⟩,
⟨rfl,
⟨rfl,
((pm_g h2 _).1.symm)⟩,
⟨rfl,
((pm_g h2 _).1.symm)⟩,
⟨rfl,
(congrArg (fun m : MS => (srcL m.src).length) (pm_f (x := x1) h20 (by omega)))⟩,trivial⟩,rfl,trivial⟩,
⟨rl,
(rowsG (pm_gg h2 _).symm)⟩,
⟨⟨rfl,rfl⟩,
⟨rfl,
((pm_g h2 _).1.symm)⟩,
⟨rfl,
((pm_g h2 _).2.symm)⟩,
⟨rfl,
(congrArg (fun m : MS => m.dist.length) (pm_f (x := x1) h20 (by omega)))⟩,
⟨rfl,
(congrArg (fun m : MS => m.so.length) (pm_f (x := x1) h20 (by omega)))⟩,
(congrArg (fun m : MS => m.od) (pm_f (x := x1) h20 (by omega))),trivial⟩,
⟨⟨(Nat.le_of_eq (pm_g h2 _).1)⟩,
(rowsE (congrArg MS.ts (pm_f (x := x1) h20 (by omega))))⟩,
⟨⟨(Nat.le_of_eq (pm_g h2 _).2)⟩,
(rowsE (congrArg MS.src (pm_f (x := x1) h20 (by omega))))⟩,
⟨⟨(Nat.le_of_eq (congrArg (fun m : MS => m.dist.length) (pm_f (x := x1) h20 (by omega))).symm)⟩,
(rowsE (congrArg MS.dist (pm_f (x := x1) h20 (by omega))))⟩,
⟨⟨(Nat.le_of_eq (congrArg (fun m : MS => m.so.length) (pm_f (x := x1) h20 (by omega))).symm)⟩,
(rowsE (congrArg MS.so (pm_f (x := x1) h20 (by omega))))⟩,
⟨⟨(Nat.le_of_eq (pm_g h2 _).1)⟩,
(rowsE (congrArg MS.ts (pm_f (x := x1) h20 (by omega))))⟩,
⟨⟨(Nat.le_of_eq (congrArg (fun m : MS => (srcL m.src).length) (pm_f (x := x1) h20 (by omega))).symm)⟩,
(rowsE (congrArg (fun m : MS => srcL m.src) (pm_f (x := x1) h20 (by omega))))⟩,trivial⟩⟩⟩⟩⟩)
theorem plY_good : Good Tryd.prog 8 plYC /\ FnOk Tryd.prog 8 := good_of tok conPl (fn := Tryd.f8) rfl (by decide +kernel) (fun _ => rfl) plY_keeps
def plNC : CT where
 X := PLX
 pre := fun x => plOk x = false
 args := fun x => [plA x]
 g0 := plH
 res := fun x => .tup [.np, .agg [.i .i64 0, .ns, .ns, .ns], .bt true]
 g1 := fun _ => []
def plNI (x : PLX) (id : Nat) : Option Inv := match id with
 | 100029 => some (cutT 29 true)
 | _ => none
def cfgPn : Cfg := ⟨T, [], [(17, .one (netQC .bor))], noInv, 14, {}⟩
theorem conPn : ConOk Tryd.prog cfgPn := ConL.ok (.cons (ConL.one netQb_good) .nil)
theorem pn_3 {x : PLX} (h : plOk x = false) (h1 : ¬ rsz x.nw = 0) (h2 : ¬ (60 : Int) < x.ts.length) : (30 : Int) < x.acts.length := by
 rcases Classical.em ((30 : Int) < x.acts.length) with q | q
 ·exact q
 ·have e : rightB x.nw = true := by
   cases w : rightB x.nw with
   | true => rfl
   | false => exact absurd (show rsz x.nw = 0 by unfold rsz; rw [w]; rfl) h1
  have := plOk_iff.2 ⟨e, by omega, by omega⟩
  rw [h] at this; cases this
set_option maxRecDepth 100000 in
theorem plN_keeps : Keeps cfgPn Tryd.f8 plNC plNI := Eq.mp (show ((∀ x1 : PLX, ((plOk x1 = false)-> (∃ x3 : NewX, (True/\((((PLX.n x1 = x3.n)/\((0=0/\((PLX.es x1).length = x3.es.length))/\True))/\True)/\((((RLe x3.es.length (PLX.es x1).length)/\(RowsEq [.int .i64, .int .i64, .int .i64] x3.es.length (encL encE (PLX.es x1)) (encL encE x3.es)))/\True)/\((((decide (rsz x3 = (0 : Nat)) = false)-> (((decide (60 < (↑(PLX.ts x1).length : Int)) = false)-> (∃ x6 : Unit, (True/\((decide (30 < (↑(PLX.acts x1).length : Int)) = true)/\True))))/\((decide (60 < (↑(PLX.ts x1).length : Int)) = true)-> (∃ x8 : Unit, (True/\(true = true/\True))))))/\((decide (rsz x3 = (0 : Nat)) = true)-> (∃ x10 : Unit, (True/\(true = true/\True)))))/\(∀ x11 : Unit, (True -> ((True/\((((0 : Int) = 0)/\(True/\(True/\(True/\True))))/\(true = true/\True)))/\True))))))))))) = (Keeps cfgPn Tryd.f8 plNC plNI) by kernel_rfl) (fun x1 => fun h2 => ⟨(PLX.nw x1),trivial,
⟨⟨rfl,
⟨rfl,rfl⟩,trivial⟩,trivial⟩,
⟨⟨⟨(Nat.le_refl _)⟩,rr⟩,trivial⟩,
⟨fun g4 => have h4 := dF g4; ⟨fun g5 => have h5 := dF g5; ⟨(default),trivial,
(by exact decide_eq_true (pn_3 h2 ‹_› ‹_›)),trivial⟩,
fun g7 => have h7 := dT g7; ⟨(default),trivial,rfl,trivial⟩⟩,
fun g9 => have h9 := dT g9; ⟨(default),trivial,rfl,trivial⟩⟩,
fun x11 => fun h12 => ⟨⟨trivial,
⟨rfl,trivial,trivial,trivial,trivial⟩,rfl,trivial⟩,trivial⟩⟩)
theorem plN_good : Good Tryd.prog 8 plNC /\ FnOk Tryd.prog 8 := good_of tok conPn (fn := Tryd.f8) rfl (by decide +kernel) (fun _ => rfl) plN_keeps
end Go.Sym