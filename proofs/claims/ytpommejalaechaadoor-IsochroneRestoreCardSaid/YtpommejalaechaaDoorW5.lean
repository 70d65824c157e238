import Derived.Test.YtpommejalaechaaDoorW4
import Derived.Test.YtpommejalaechaaDoorXD
namespace Go.Sym
set_option linter.unusedVariables false
set_option linter.unusedSimpArgs false
open Go.Proofs
set_option maxRecDepth 100000
set_option maxHeartbeats 4000000
structure DoX where
 m : MS
 a : Ac
def dyC (x : MS) (y : MS) : List SV := [.p 100001 0 0, .sl 100002 0 x.g.es.length, .sl 100003 0 x.g.n, .sl 1 0 y.dist.length, .sl 2 0 y.so.length, .b y.od]
def dyH (x : MS) (y : MS) : List (Nat × Blk) := [(100000, .one .own (dyC x y)), (1, .rows .own k1 y.dist.length (encL encI y.dist)), (2, .rows .own k1 y.so.length (encL encI y.so)), (100002, .rows .own k1 x.g.es.length (encL encI y.ts)), (100003, .rows .own kB x.g.n (encL encBo y.src)), (100004, .dead), (100005, .dead)]
def doC : CT where
 X := DoX
 pre := fun x => MSok x.m
 args := fun x => [.p 100000 0 0, rmA (rF x.m) 100010, .agg [.i .i64 x.a.k, .i .i64 x.a.a, .i .i64 x.a.t]]
 g0 := fun x => msM x.m 100000 .own .own .own .own ++ rmH (rF x.m) 100010
 res := fun x => .tup [.agg [.i .i64 x.m.g.n, .sl 100010 0 x.m.g.es.length, .sl 3 0 x.m.g.es.length, .sl 4 0 (srcL (doM x.m x.a).src).length], .b true]
 g1 := fun x => dyH x.m (doM x.m x.a) ++ [(3, .rows .bor k1 x.m.g.es.length (encL encI (doM x.m x.a).ts)), (4, .rows .bor k1 (srcL (doM x.m x.a).src).length (encL encI (srcL (doM x.m x.a).src)))]
def doI (x : DoX) (id : Nat) : Option Inv := match id with
 | 100084 => some (cutB 84 true)
 | _ => none
def cfgDo : Cfg := ⟨T, [], [(12, .one addSC), (14, .one remSC), (16, .one setTC), (39, .one putRC), (40, .one dropC), (41, .one chC)], noInv, 20, {}⟩
theorem conDo : ConOk Tryd.prog cfgDo := ConL.ok (.cons (ConL.one addS_good) (.cons (ConL.one remS_good) (.cons (ConL.one setT_good) (.cons (ConL.one put_good) (.cons (ConL.one drop_good) (.cons (ConL.one ch_good) .nil))))))
theorem rowsE {α : Type} [Inhabited α] {e : α -> Nat -> D} {ks : List Kd} {n : Nat} {a b : List α} (h : a = b) : RowsEq ks n (encL e a) (encL e b) := h ▸ RowsEq.rfl'
structure DAx (x : DoX) (y : MS) (s : List Int) : Prop where
 ts : y.ts = (doM x.m x.a).ts
 src : y.src = (doM x.m x.a).src
 dist : y.dist = (doM x.m x.a).dist
 so : y.so = (doM x.m x.a).so
 od : y.od = (doM x.m x.a).od
 s : s = srcL (doM x.m x.a).src
 g : y.g = x.m.g
theorem dax {x : DoX} {y : MS} {s : List Int} (h : y = doM x.m x.a) (hs : s = srcL y.src) : DAx x y s := by subst h; exact ⟨rfl, rfl, rfl, rfl, rfl, hs, doM_g _ _⟩
theorem da_0 {x : DoX} (h : MSok x.m) (h0 : x.a.k = 0) : DAx x (addM x.m x.a.a) (putS (rF x.m) x.a.a) := dax (doM_0 h0).symm (put_is h.src _).2
theorem da_1 {x : DoX} (h : MSok x.m) (h0 : ¬ x.a.k = 0) (h1 : x.a.k = 1) : DAx x (remM x.m x.a.a) (leL (rF x.m).src [x.a.a]) := dax (doM_1 h0 h1).symm (drop_is h.src _).2
theorem da_2 {x : DoX} (h : MSok x.m) (h0 : ¬ x.a.k = 0) (h1 : ¬ x.a.k = 1) (h2 : x.a.k = 2) : DAx x (setM x.m x.a.a x.a.t) (srcL x.m.src) := dax (doM_2 h0 h1 h2).symm (by rw [setM_src])
theorem da_3 {x : DoX} (h : MSok x.m) (h0 : ¬ x.a.k = 0) (h1 : ¬ x.a.k = 1) (h2 : ¬ x.a.k = 2) : DAx x x.m (srcL x.m.src) := dax (doM_3 h0 h1 h2).symm rfl
structure DKx (x : DoX) : Prop where
 ts : x.m.ts = (doM x.m x.a).ts
 dist : x.m.dist = (doM x.m x.a).dist
 so : x.m.so = (doM x.m x.a).so
theorem dk_0 {x : DoX} (h0 : x.a.k = 0) : DKx x := by have q := addM_g x.m x.a.a; exact ⟨by rw [doM_0 h0]; exact q.2.1.symm, by rw [doM_0 h0]; exact q.2.2.1.symm, by rw [doM_0 h0]; exact q.2.2.2.symm⟩
theorem dk_1 {x : DoX} (h0 : ¬ x.a.k = 0) (h1 : x.a.k = 1) : DKx x := by have q := remM_g x.m x.a.a; exact ⟨by rw [doM_1 h0 h1]; exact q.2.1.symm, by rw [doM_1 h0 h1]; exact q.2.2.1.symm, by rw [doM_1 h0 h1]; exact q.2.2.2.symm⟩
theorem dk_2 {x : DoX} (h0 : ¬ x.a.k = 0) (h1 : ¬ x.a.k = 1) (h2 : x.a.k = 2) : x.m.src = (doM x.m x.a).src /\ chT (rF x.m) x.a.a x.a.t = (doM x.m x.a).ts := by rw [doM_2 h0 h1 h2]; exact ⟨(setM_src _ _ _).symm, (change_is _ _ _).2.2⟩
theorem rF_len {m : MS} (h : MSok m) : (rF m).src.length <= 1048576 := h.fx.e
set_option maxRecDepth 100000 in
theorem do_keeps : Keeps cfgDo Tryd.f26 doC doI := Eq.mp (show ((∀ x1 : DoX, ((MSok x1.m)-> (((decide (x1.a.k = (0 : Int)) = true)-> (∃ x4 : MNx, (x4.m.src.length = x4.m.g.n/\(((0=0 /\ 0=0)/\(x1.a.a = x4.v/\True))/\((((0=0 /\ 0=0)/\((0=0 /\ x1.m.g.es.length = x4.m.g.es.length)/\((0=0 /\ x1.m.g.n = x4.m.g.n)/\((0=0 /\ x1.m.dist.length = x4.m.dist.length)/\((0=0 /\ x1.m.so.length = x4.m.so.length)/\(x1.m.od = x4.m.od/\True))))))/\((RLe 1 1/\(RowsEq [.sl [.int .i64, .int .i64, .int .i64], .sl [.sl [.int .i64]], .sl [.sl [.int .i64]]] 1 (encG x1.m.g) (encG x4.m.g)))/\(((RLe x4.m.g.es.length x1.m.g.es.length)/\(RI x4.m.g.es.length x1.m.ts x4.m.ts))/\(((RLe x4.m.g.n x1.m.g.n)/\(RowsEq (Kd.bool :: []) x4.m.g.n (encL encBo x1.m.src) (encL encBo x4.m.src)))/\(((RLe x4.m.dist.length x1.m.dist.length)/\(RI x4.m.dist.length x1.m.dist x4.m.dist))/\(((RLe x4.m.so.length x1.m.so.length)/\(RI x4.m.so.length x1.m.so x4.m.so))/\True))))))/\(∃ x5 : FVx, ((x5.x.src.length <= (1048576 : Nat))/\(((((↑(rF x1.m).g.n : Int) = (x5.x.g.n : Int))/\((0=0/\((rF x1.m).g.es.length = x5.x.g.es.length))/\((0=0/\((rF x1.m).ts.length = x5.x.ts.length))/\((0=0/\((rF x1.m).src.length = x5.x.src.length))/\True))))/\(x1.a.a = x5.v/\True))/\((((RLe x5.x.g.es.length (rF x1.m).g.es.length)/\(RowsEq [.int .i64, .int .i64, .int .i64] x5.x.g.es.length (encL encE (rF x1.m).g.es) (encL encE x5.x.g.es)))/\(((RLe x5.x.ts.length (rF x1.m).ts.length)/\(RI x5.x.ts.length (rF x1.m).ts x5.x.ts))/\(((RLe x5.x.src.length (rF x1.m).src.length)/\(RI x5.x.src.length (rF x1.m).src x5.x.src))/\True)))/\(((((x5.x.g.n : Int) = (x1.m.g.n : Int))/\((0=0 /\ x5.x.g.es.length = x1.m.g.es.length)/\((0=0 /\ x5.x.ts.length = x1.m.g.es.length)/\((0=0/\((putS x5.x x5.v).length = (srcL (doM x1.m x1.a).src).length))/\True))))/\((decide (addE x4.m x4.v = putE x5.x x5.v) = true)/\True))/\(((0=0 /\ 0=0)/\((0=0/\((addM x4.m x4.v).g.es.length = x1.m.g.es.length))/\((0=0/\((addM x4.m x4.v).g.n = x1.m.g.n))/\((0=0/\((addM x4.m x4.v).dist.length = (doM x1.m x1.a).dist.length))/\((0=0/\((addM x4.m x4.v).so.length = (doM x1.m x1.a).so.length))/\(((addM x4.m x4.v).od = (doM x1.m x1.a).od)/\True))))))/\(((RLe (doM x1.m x1.a).dist.length x1.m.dist.length)/\(RowsEq [.int .i64] (doM x1.m x1.a).dist.length (encL encI x1.m.dist) (encL encI (doM x1.m x1.a).dist)))/\(((RLe (doM x1.m x1.a).so.length x1.m.so.length)/\(RowsEq [.int .i64] (doM x1.m x1.a).so.length (encL encI x1.m.so) (encL encI (doM x1.m x1.a).so)))/\(((RLe x1.m.g.es.length x1.m.g.es.length)/\(RI x1.m.g.es.length x1.m.ts (doM x1.m x1.a).ts))/\(((RLe x1.m.g.n (addM x4.m x4.v).g.n)/\(RowsEq (Kd.bool :: []) x1.m.g.n (encL encBo (addM x4.m x4.v).src) (encL encBo (doM x1.m x1.a).src)))/\(True/\(True/\(((RLe x1.m.g.es.length (rF x1.m).ts.length)/\(RI x1.m.g.es.length (rF x1.m).ts (doM x1.m x1.a).ts))/\(((RLe (srcL (doM x1.m x1.a).src).length (putS x5.x x5.v).length)/\(RowsEq [.int .i64] (srcL (doM x1.m x1.a).src).length (encL encI (putS x5.x x5.v)) (encL encI (srcL (doM x1.m x1.a).src))))/\True)))))))))))))))))))/\((decide (x1.a.k = (0 : Int)) = false)-> (((decide (x1.a.k = (1 : Int)) = true)-> (∃ x8 : MNx, (x8.m.src.length = x8.m.g.n/\(((0=0 /\ 0=0)/\(x1.a.a = x8.v/\True))/\((((0=0 /\ 0=0)/\((0=0 /\ x1.m.g.es.length = x8.m.g.es.length)/\((0=0 /\ x1.m.g.n = x8.m.g.n)/\((0=0 /\ x1.m.dist.length = x8.m.dist.length)/\((0=0 /\ x1.m.so.length = x8.m.so.length)/\(x1.m.od = x8.m.od/\True))))))/\((RLe 1 1/\(RowsEq [.sl [.int .i64, .int .i64, .int .i64], .sl [.sl [.int .i64]], .sl [.sl [.int .i64]]] 1 (encG x1.m.g) (encG x8.m.g)))/\(((RLe x8.m.g.es.length x1.m.g.es.length)/\(RI x8.m.g.es.length x1.m.ts x8.m.ts))/\(((RLe x8.m.g.n x1.m.g.n)/\(RowsEq (Kd.bool :: []) x8.m.g.n (encL encBo x1.m.src) (encL encBo x8.m.src)))/\(((RLe x8.m.dist.length x1.m.dist.length)/\(RI x8.m.dist.length x1.m.dist x8.m.dist))/\(((RLe x8.m.so.length x1.m.so.length)/\(RI x8.m.so.length x1.m.so x8.m.so))/\True))))))/\(∃ x9 : FVx, ((x9.x.src.length <= (1048576 : Nat))/\(((((↑(rF x1.m).g.n : Int) = (x9.x.g.n : Int))/\((0=0/\((rF x1.m).g.es.length = x9.x.g.es.length))/\((0=0/\((rF x1.m).ts.length = x9.x.ts.length))/\((0=0/\((rF x1.m).src.length = x9.x.src.length))/\True))))/\(x1.a.a = x9.v/\True))/\((((RLe x9.x.g.es.length (rF x1.m).g.es.length)/\(RowsEq [.int .i64, .int .i64, .int .i64] x9.x.g.es.length (encL encE (rF x1.m).g.es) (encL encE x9.x.g.es)))/\(((RLe x9.x.ts.length (rF x1.m).ts.length)/\(RI x9.x.ts.length (rF x1.m).ts x9.x.ts))/\(((RLe x9.x.src.length (rF x1.m).src.length)/\(RI x9.x.src.length (rF x1.m).src x9.x.src))/\True)))/\(((((x9.x.g.n : Int) = (x1.m.g.n : Int))/\((0=0 /\ x9.x.g.es.length = x1.m.g.es.length)/\((0=0 /\ x9.x.ts.length = x1.m.g.es.length)/\((0=0/\((leL x9.x.src (x9.v :: @List.nil Int)).length = (srcL (doM x1.m x1.a).src).length))/\True))))/\(((remB x8.m x8.v == decide (x9.v ∈ x9.x.src)) = true)/\True))/\(((0=0 /\ 0=0)/\((0=0/\((remM x8.m x8.v).g.es.length = x1.m.g.es.length))/\((0=0/\((remM x8.m x8.v).g.n = x1.m.g.n))/\((0=0/\((remM x8.m x8.v).dist.length = (doM x1.m x1.a).dist.length))/\((0=0/\((remM x8.m x8.v).so.length = (doM x1.m x1.a).so.length))/\(((remM x8.m x8.v).od = (doM x1.m x1.a).od)/\True))))))/\(((RLe (doM x1.m x1.a).dist.length x1.m.dist.length)/\(RowsEq [.int .i64] (doM x1.m x1.a).dist.length (encL encI x1.m.dist) (encL encI (doM x1.m x1.a).dist)))/\(((RLe (doM x1.m x1.a).so.length x1.m.so.length)/\(RowsEq [.int .i64] (doM x1.m x1.a).so.length (encL encI x1.m.so) (encL encI (doM x1.m x1.a).so)))/\(((RLe x1.m.g.es.length x1.m.g.es.length)/\(RI x1.m.g.es.length x1.m.ts (doM x1.m x1.a).ts))/\(((RLe x1.m.g.n (remM x8.m x8.v).g.n)/\(RowsEq (Kd.bool :: []) x1.m.g.n (encL encBo (remM x8.m x8.v).src) (encL encBo (doM x1.m x1.a).src)))/\(True/\(True/\(((RLe x1.m.g.es.length (rF x1.m).ts.length)/\(RI x1.m.g.es.length (rF x1.m).ts (doM x1.m x1.a).ts))/\(((RLe (srcL (doM x1.m x1.a).src).length (leL x9.x.src (x9.v :: @List.nil Int)).length)/\(RowsEq [.int .i64] (srcL (doM x1.m x1.a).src).length (encL encI (leL x9.x.src (x9.v :: @List.nil Int))) (encL encI (srcL (doM x1.m x1.a).src))))/\True)))))))))))))))))))/\((decide (x1.a.k = (1 : Int)) = false)-> (((decide (x1.a.k = (2 : Int)) = true)-> (∃ x12 : METx, ((MSok x12.m)/\(((0=0 /\ 0=0)/\(x1.a.a = x12.e/\(x1.a.t = x12.t/\True)))/\((((0=0 /\ 0=0)/\((0=0 /\ x1.m.g.es.length = x12.m.g.es.length)/\((0=0 /\ x1.m.g.n = x12.m.g.n)/\((0=0 /\ x1.m.dist.length = x12.m.dist.length)/\((0=0 /\ x1.m.so.length = x12.m.so.length)/\(x1.m.od = x12.m.od/\True))))))/\((RLe 1 1/\(RowsEq [.sl [.int .i64, .int .i64, .int .i64], .sl [.sl [.int .i64]], .sl [.sl [.int .i64]]] 1 (encG x1.m.g) (encG x12.m.g)))/\(((RLe x12.m.g.es.length x1.m.g.es.length)/\(RI x12.m.g.es.length x1.m.ts x12.m.ts))/\(((RLe x12.m.g.n x1.m.g.n)/\(RowsEq (Kd.bool :: []) x12.m.g.n (encL encBo x1.m.src) (encL encBo x12.m.src)))/\(((RLe x12.m.dist.length x1.m.dist.length)/\(RI x12.m.dist.length x1.m.dist x12.m.dist))/\(((RLe x12.m.so.length x1.m.so.length)/\(RI x12.m.so.length x1.m.so x12.m.so))/\True))))))/\(∃ x13 : CHx, (((FXok x13.x) /\ x13.x.ts.length = x13.x.g.es.length)/\(((((↑(rF x1.m).g.n : Int) = (x13.x.g.n : Int))/\((0=0/\((rF x1.m).g.es.length = x13.x.g.es.length))/\((0=0/\((rF x1.m).ts.length = x13.x.ts.length))/\((0=0/\((rF x1.m).src.length = x13.x.src.length))/\True))))/\(x1.a.a = x13.e/\(x1.a.t = x13.t/\True)))/\((((RLe x13.x.g.es.length (rF x1.m).g.es.length)/\(RowsEq [.int .i64, .int .i64, .int .i64] x13.x.g.es.length (encL encE (rF x1.m).g.es) (encL encE x13.x.g.es)))/\(((RLe x13.x.ts.length (rF x1.m).ts.length)/\(RI x13.x.ts.length (rF x1.m).ts x13.x.ts))/\(((RLe x13.x.src.length (rF x1.m).src.length)/\(RI x13.x.src.length (rF x1.m).src x13.x.src))/\True)))/\(((decide (setN x12.m x12.e x12.t = chN x13.x x13.e x13.t) = true)-> (((((x13.x.g.n : Int) = (x1.m.g.n : Int))/\((0=0 /\ x13.x.g.es.length = x1.m.g.es.length)/\((0=0 /\ x13.x.g.es.length = x1.m.g.es.length)/\((0=0/\(x13.x.src.length = (srcL (doM x1.m x1.a).src).length))/\True))))/\((decide (setE x12.m x12.e x12.t = chE x13.x x13.e x13.t) = true)/\True))/\(((0=0 /\ 0=0)/\((0=0 /\ x12.m.g.es.length = x1.m.g.es.length)/\((0=0 /\ x12.m.g.n = x1.m.g.n)/\((0=0/\((setM x12.m x12.e x12.t).dist.length = (doM x1.m x1.a).dist.length))/\((0=0/\((setM x12.m x12.e x12.t).so.length = (doM x1.m x1.a).so.length))/\(((setM x12.m x12.e x12.t).od = (doM x1.m x1.a).od)/\True))))))/\(((RLe (doM x1.m x1.a).dist.length (setM x12.m x12.e x12.t).dist.length)/\(RowsEq [.int .i64] (doM x1.m x1.a).dist.length (encL encI (setM x12.m x12.e x12.t).dist) (encL encI (doM x1.m x1.a).dist)))/\(((RLe (doM x1.m x1.a).so.length (setM x12.m x12.e x12.t).so.length)/\(RowsEq [.int .i64] (doM x1.m x1.a).so.length (encL encI (setM x12.m x12.e x12.t).so) (encL encI (doM x1.m x1.a).so)))/\(((RLe x1.m.g.es.length x12.m.g.es.length)/\(RI x1.m.g.es.length (setM x12.m x12.e x12.t).ts (doM x1.m x1.a).ts))/\(((RLe x1.m.g.n x1.m.g.n)/\(RowsEq (Kd.bool :: []) x1.m.g.n (encL encBo x1.m.src) (encL encBo (doM x1.m x1.a).src)))/\(True/\(True/\(((RLe x1.m.g.es.length x13.x.g.es.length)/\(RI x1.m.g.es.length (chT x13.x x13.e x13.t) (doM x1.m x1.a).ts))/\(((RLe (srcL (doM x1.m x1.a).src).length (rF x1.m).src.length)/\(RowsEq [.int .i64] (srcL (doM x1.m x1.a).src).length (encL encI (rF x1.m).src) (encL encI (srcL (doM x1.m x1.a).src))))/\True)))))))))))/\((decide (setN x12.m x12.e x12.t = chN x13.x x13.e x13.t) = false)-> (((((x13.x.g.n : Int) = (x1.m.g.n : Int))/\((0=0 /\ x13.x.g.es.length = x1.m.g.es.length)/\((0=0 /\ x13.x.g.es.length = x1.m.g.es.length)/\((0=0/\(x13.x.src.length = (srcL (doM x1.m x1.a).src).length))/\True))))/\(false = true/\True))/\(((0=0 /\ 0=0)/\((0=0 /\ x12.m.g.es.length = x1.m.g.es.length)/\((0=0 /\ x12.m.g.n = x1.m.g.n)/\((0=0/\((setM x12.m x12.e x12.t).dist.length = (doM x1.m x1.a).dist.length))/\((0=0/\((setM x12.m x12.e x12.t).so.length = (doM x1.m x1.a).so.length))/\(((setM x12.m x12.e x12.t).od = (doM x1.m x1.a).od)/\True))))))/\(((RLe (doM x1.m x1.a).dist.length (setM x12.m x12.e x12.t).dist.length)/\(RowsEq [.int .i64] (doM x1.m x1.a).dist.length (encL encI (setM x12.m x12.e x12.t).dist) (encL encI (doM x1.m x1.a).dist)))/\(((RLe (doM x1.m x1.a).so.length (setM x12.m x12.e x12.t).so.length)/\(RowsEq [.int .i64] (doM x1.m x1.a).so.length (encL encI (setM x12.m x12.e x12.t).so) (encL encI (doM x1.m x1.a).so)))/\(((RLe x1.m.g.es.length x12.m.g.es.length)/\(RI x1.m.g.es.length (setM x12.m x12.e x12.t).ts (doM x1.m x1.a).ts))/\(((RLe x1.m.g.n x1.m.g.n)/\(RowsEq (Kd.bool :: []) x1.m.g.n (encL encBo x1.m.src) (encL encBo (doM x1.m x1.a).src)))/\(True/\(True/\(((RLe x1.m.g.es.length x13.x.g.es.length)/\(RI x1.m.g.es.length (chT x13.x x13.e x13.t) (doM x1.m x1.a).ts))/\(((RLe (srcL (doM x1.m x1.a).src).length (rF x1.m).src.length)/\(RowsEq [.int .i64] (srcL (doM x1.m x1.a).src).length (encL encI (rF x1.m).src) (encL encI (srcL (doM x1.m x1.a).src))))/\True)))))))))))))))))))))/\((decide (x1.a.k = (2 : Int)) = false)-> (((((↑(rF x1.m).g.n : Int) = (x1.m.g.n : Int))/\((0=0/\((rF x1.m).g.es.length = x1.m.g.es.length))/\((0=0/\((rF x1.m).ts.length = x1.m.g.es.length))/\((0=0/\((rF x1.m).src.length = (srcL (doM x1.m x1.a).src).length))/\True))))/\(true = true/\True))/\(((0=0 /\ 0=0)/\((0=0 /\ x1.m.g.es.length = x1.m.g.es.length)/\((0=0 /\ x1.m.g.n = x1.m.g.n)/\((0=0/\(x1.m.dist.length = (doM x1.m x1.a).dist.length))/\((0=0/\(x1.m.so.length = (doM x1.m x1.a).so.length))/\((x1.m.od = (doM x1.m x1.a).od)/\True))))))/\(((RLe (doM x1.m x1.a).dist.length x1.m.dist.length)/\(RowsEq [.int .i64] (doM x1.m x1.a).dist.length (encL encI x1.m.dist) (encL encI (doM x1.m x1.a).dist)))/\(((RLe (doM x1.m x1.a).so.length x1.m.so.length)/\(RowsEq [.int .i64] (doM x1.m x1.a).so.length (encL encI x1.m.so) (encL encI (doM x1.m x1.a).so)))/\(((RLe x1.m.g.es.length x1.m.g.es.length)/\(RI x1.m.g.es.length x1.m.ts (doM x1.m x1.a).ts))/\(((RLe x1.m.g.n x1.m.g.n)/\(RowsEq (Kd.bool :: []) x1.m.g.n (encL encBo x1.m.src) (encL encBo (doM x1.m x1.a).src)))/\(True/\(True/\(((RLe x1.m.g.es.length (rF x1.m).ts.length)/\(RI x1.m.g.es.length (rF x1.m).ts (doM x1.m x1.a).ts))/\(((RLe (srcL (doM x1.m x1.a).src).length (rF x1.m).src.length)/\(RowsEq [.int .i64] (srcL (doM x1.m x1.a).src).length (encL encI (rF x1.m).src) (encL encI (srcL (doM x1.m x1.a).src))))/\True))))))))))))))))))) = (Keeps cfgDo Tryd.f26 doC doI) by kernel_rfl) (fun x1 => fun h2 => ⟨fun g3 => have h3 := dT g3; ⟨({ m := DoX.m x1, v := Ac.a (DoX.a x1) : MNx }),
 h2.src,
⟨⟨rfl,rfl⟩,rfl,trivial⟩,
⟨⟨⟨rfl,rfl⟩,
⟨rfl,rfl⟩,
⟨rfl,rfl⟩,
⟨rfl,rfl⟩,
⟨rfl,rfl⟩,rfl,trivial⟩,
⟨rl,rr⟩,
⟨rl,rr⟩,
⟨rl,rr⟩,
⟨rl,rr⟩,
⟨rl,rr⟩,trivial⟩,
({ x := rF (DoX.m x1), v := Ac.a (DoX.a x1) : FVx }),
(rF_len h2),
⟨⟨rfl,
⟨rfl,rfl⟩,
⟨rfl,rfl⟩,
⟨rfl,rfl⟩,trivial⟩,rfl,trivial⟩,
⟨⟨rl,rr⟩,
⟨rl,rr⟩,
⟨rl,rr⟩,trivial⟩,
⟨⟨rfl,
⟨rfl,rfl⟩,
⟨rfl,h2.ts⟩,
⟨rfl,
(congrArg List.length (da_0 h2 ‹_›).s)⟩,trivial⟩,
(decide_eq_true (put_is h2.src _).1.symm),trivial⟩,
⟨⟨rfl,rfl⟩,
⟨rfl,
(congrArg (fun g : Gr => g.es.length) (da_0 h2 ‹_›).g)⟩,
⟨rfl,
(congrArg Gr.n (da_0 h2 ‹_›).g)⟩,
⟨rfl,
(congrArg List.length (da_0 h2 ‹_›).dist)⟩,
⟨rfl,
(congrArg List.length (da_0 h2 ‹_›).so)⟩,
((da_0 h2 ‹_›).od),trivial⟩,
⟨⟨(Nat.le_of_eq (congrArg List.length (dk_0 (x := x1) ‹_›).dist).symm)⟩,
(rowsE (dk_0 (x := x1) ‹_›).dist)⟩,
⟨⟨(Nat.le_of_eq (congrArg List.length (dk_0 (x := x1) ‹_›).so).symm)⟩,
(rowsE (dk_0 (x := x1) ‹_›).so)⟩,
⟨rl,
(rowsE (dk_0 (x := x1) ‹_›).ts)⟩,
⟨⟨(Nat.le_of_eq (congrArg Gr.n (da_0 h2 ‹_›).g).symm)⟩,
(rowsE (da_0 h2 ‹_›).src)⟩,trivial,trivial,
⟨⟨(Nat.le_of_eq h2.ts.symm)⟩,
(rowsE (dk_0 (x := x1) ‹_›).ts)⟩,
⟨⟨(Nat.le_of_eq (congrArg List.length (da_0 h2 ‹_›).s).symm)⟩,
(rowsE (da_0 h2 ‹_›).s)⟩,trivial⟩,
fun g6 => have h6 := dF g6; ⟨fun g7 => have h7 := dT g7; ⟨({ m := DoX.m x1, v := Ac.a (DoX.a x1) : MNx }),h2.src,
⟨⟨rfl,rfl⟩,rfl,trivial⟩,
⟨⟨⟨rfl,rfl⟩,
⟨rfl,rfl⟩,
⟨rfl,rfl⟩,
⟨rfl,rfl⟩,
⟨rfl,rfl⟩,rfl,trivial⟩,
⟨rl,rr⟩,
⟨rl,rr⟩,
⟨rl,rr⟩,
⟨rl,rr⟩,
⟨rl,rr⟩,trivial⟩,
({ x := rF (DoX.m x1), v := Ac.a (DoX.a x1) : FVx }),
(rF_len h2),
⟨⟨rfl,
⟨rfl,rfl⟩,
⟨rfl,rfl⟩,
⟨rfl,rfl⟩,trivial⟩,rfl,trivial⟩,
⟨⟨rl,rr⟩,
⟨rl,rr⟩,
⟨rl,rr⟩,trivial⟩,
⟨⟨rfl,
⟨rfl,rfl⟩,
⟨rfl,h2.ts⟩,
⟨rfl,
(congrArg List.length (da_1 h2 ‹_› ‹_›).s)⟩,trivial⟩,
((beq_iff_eq).2 (drop_is h2.src _).1),trivial⟩,
⟨⟨rfl,rfl⟩,
⟨rfl,
(congrArg (fun g : Gr => g.es.length) (da_1 h2 ‹_› ‹_›).g)⟩,
⟨rfl,
(congrArg Gr.n (da_1 h2 ‹_› ‹_›).g)⟩,
⟨rfl,
(congrArg List.length (da_1 h2 ‹_› ‹_›).dist)⟩,
⟨rfl,
(congrArg List.length (da_1 h2 ‹_› ‹_›).so)⟩,
((da_1 h2 ‹_› ‹_›).od),trivial⟩,
⟨⟨(Nat.le_of_eq (congrArg List.length (dk_1 (x := x1) ‹_› ‹_›).dist).symm)⟩,
(rowsE (dk_1 (x := x1) ‹_› ‹_›).dist)⟩,
⟨⟨(Nat.le_of_eq (congrArg List.length (dk_1 (x := x1) ‹_› ‹_›).so).symm)⟩,
(rowsE (dk_1 (x := x1) ‹_› ‹_›).so)⟩,
⟨rl,
(rowsE (dk_1 (x := x1) ‹_› ‹_›).ts)⟩,
⟨⟨(Nat.le_of_eq (congrArg Gr.n (da_1 h2 ‹_› ‹_›).g).symm)⟩,
(rowsE (da_1 h2 ‹_› ‹_›).src)⟩,trivial,trivial,
⟨⟨(Nat.le_of_eq h2.ts.symm)⟩,
(rowsE (dk_1 (x := x1) ‹_› ‹_›).ts)⟩,
⟨⟨(Nat.le_of_eq (congrArg List.length (da_1 h2 ‹_› ‹_›).s).symm)⟩,
(rowsE (da_1 h2 ‹_› ‹_›).s)⟩,trivial⟩,
fun g10 => have h10 := dF g10; ⟨fun g11 => have h11 := dT g11; ⟨({ m := DoX.m x1, e := Ac.a (DoX.a x1), t := Ac.t (DoX.a x1) : METx }),
(by omega),
⟨⟨rfl,rfl⟩,rfl,rfl,trivial⟩,
⟨⟨⟨rfl,rfl⟩,
⟨rfl,rfl⟩,
⟨rfl,rfl⟩,
⟨rfl,rfl⟩,
⟨rfl,rfl⟩,rfl,trivial⟩,
⟨rl,rr⟩,
⟨rl,rr⟩,
⟨rl,rr⟩,
⟨rl,rr⟩,
⟨rl,rr⟩,trivial⟩,
({ x := rF (DoX.m x1), e := Ac.a (DoX.a x1), t := Ac.t (DoX.a x1) : CHx }),
⟨h2.fx,h2.ts⟩,
⟨⟨rfl,
⟨rfl,rfl⟩,
⟨rfl,rfl⟩,
⟨rfl,rfl⟩,trivial⟩,rfl,rfl,trivial⟩,
⟨⟨rl,rr⟩,
⟨rl,rr⟩,
⟨rl,rr⟩,trivial⟩,
fun g14 => have h14 := dT g14; ⟨⟨⟨rfl,
⟨rfl,rfl⟩,
⟨rfl,rfl⟩,
⟨rfl,
(congrArg List.length (da_2 h2 ‹_› ‹_› ‹_›).s)⟩,trivial⟩,
(decide_eq_true (change_is _ _ _).2.1.symm),trivial⟩,
⟨⟨rfl,rfl⟩,
⟨rfl,rfl⟩,
⟨rfl,rfl⟩,
⟨rfl,
(congrArg List.length (da_2 h2 ‹_› ‹_› ‹_›).dist)⟩,
⟨rfl,
(congrArg List.length (da_2 h2 ‹_› ‹_› ‹_›).so)⟩,
((da_2 h2 ‹_› ‹_› ‹_›).od),trivial⟩,
⟨⟨(Nat.le_of_eq (congrArg List.length (da_2 h2 ‹_› ‹_› ‹_›).dist).symm)⟩,
(rowsE (da_2 h2 ‹_› ‹_› ‹_›).dist)⟩,
⟨⟨(Nat.le_of_eq (congrArg List.length (da_2 h2 ‹_› ‹_› ‹_›).so).symm)⟩,
(rowsE (da_2 h2 ‹_› ‹_› ‹_›).so)⟩,
⟨rl,
(rowsE (da_2 h2 ‹_› ‹_› ‹_›).ts)⟩,
⟨rl,
(by exact rowsE (dk_2 (x := x1) ‹_› ‹_› ‹_›).1)⟩,trivial,trivial,
⟨⟨(Nat.le_refl _)⟩,
(by exact rowsE (dk_2 (x := x1) ‹_› ‹_› ‹_›).2)⟩,
⟨⟨(Nat.le_of_eq (congrArg List.length (da_2 h2 ‹_› ‹_› ‹_›).s).symm)⟩,
(rowsE (da_2 h2 ‹_› ‹_› ‹_›).s)⟩,trivial⟩,
fun g15 => have h15 := dF g15; ⟨⟨⟨rfl,
⟨rfl,rfl⟩,
⟨rfl,rfl⟩,
⟨rfl,
(congrArg List.length (da_2 h2 ‹_› ‹_› ‹_›).s)⟩,trivial⟩,
(by exact absurd (change_is x1.m x1.a.a x1.a.t).1.symm ‹_›),trivial⟩,
⟨⟨rfl,rfl⟩,
⟨rfl,rfl⟩,
⟨rfl,rfl⟩,
⟨rfl,
(congrArg List.length (da_2 h2 ‹_› ‹_› ‹_›).dist)⟩,
⟨rfl,
(congrArg List.length (da_2 h2 ‹_› ‹_› ‹_›).so)⟩,
((da_2 h2 ‹_› ‹_› ‹_›).od),trivial⟩,
⟨⟨(Nat.le_of_eq (congrArg List.length (da_2 h2 ‹_› ‹_› ‹_›).dist).symm)⟩,
(rowsE (da_2 h2 ‹_› ‹_› ‹_›).dist)⟩,
⟨⟨(Nat.le_of_eq (congrArg List.length (da_2 h2 ‹_› ‹_› ‹_›).so).symm)⟩,
(rowsE (da_2 h2 ‹_› ‹_› ‹_›).so)⟩,
⟨rl,
(rowsE (da_2 h2 ‹_› ‹_› ‹_›).ts)⟩,
⟨rl,
(by exact absurd (change_is x1.m x1.a.a x1.a.t).1.symm ‹_›)⟩,trivial,trivial,
⟨⟨(Nat.le_refl _)⟩,
(by exact absurd (change_is x1.m x1.a.a x1.a.t).1.symm ‹_›)⟩,
⟨⟨(Nat.le_of_eq (congrArg List.length (da_2 h2 ‹_› ‹_› ‹_›).s).symm)⟩,
(rowsE (da_2 h2 ‹_› ‹_› ‹_›).s)⟩,trivial⟩⟩,
fun g16 => have h16 := dF g16; ⟨⟨⟨rfl,
⟨rfl,rfl⟩,
⟨rfl,h2.ts⟩,
⟨rfl,
(congrArg List.length (da_3 h2 ‹_› ‹_› ‹_›).s)⟩,trivial⟩,rfl,trivial⟩,
⟨⟨rfl,rfl⟩,
⟨rfl,rfl⟩,
⟨rfl,rfl⟩,
⟨rfl,
(congrArg List.length (da_3 h2 ‹_› ‹_› ‹_›).dist)⟩,
⟨rfl,
(congrArg List.length (da_3 h2 ‹_› ‹_› ‹_›).so)⟩,
((da_3 h2 ‹_› ‹_› ‹_›).od),trivial⟩,
⟨⟨(Nat.le_of_eq (congrArg List.length (da_3 h2 ‹_› ‹_› ‹_›).dist).symm)⟩,
(rowsE (da_3 h2 ‹_› ‹_› ‹_›).dist)⟩,
⟨⟨(Nat.le_of_eq (congrArg List.length (da_3 h2 ‹_› ‹_› ‹_›).so).symm)⟩,
(rowsE (da_3 h2 ‹_› ‹_› ‹_›).so)⟩,
⟨rl,
(rowsE (da_3 h2 ‹_› ‹_› ‹_›).ts)⟩,
⟨rl,
(rowsE (da_3 h2 ‹_› ‹_› ‹_›).src)⟩,trivial,trivial,
⟨⟨(Nat.le_of_eq h2.ts.symm)⟩,
(rowsE (da_3 h2 ‹_› ‹_› ‹_›).ts)⟩,
⟨⟨(Nat.le_of_eq (congrArg List.length (da_3 h2 ‹_› ‹_› ‹_›).s).symm)⟩,
(rowsE (da_3 h2 ‹_› ‹_› ‹_›).s)⟩,trivial⟩⟩⟩⟩)
theorem do_good : Good Tryd.prog 26 doC /\ FnOk Tryd.prog 26 := good_of tok conDo (fn := Tryd.f26) rfl (by decide +kernel) (fun _ => rfl) do_keeps
end Go.Sym