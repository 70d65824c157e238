import Derived.Test.YtpommejalaechaaJ3
import Derived.Test.YtpommejalaechaaG5
import Derived.Test.YtpommejalaechaaXD
namespace Go.Sym
set_option linter.unusedVariables false
set_option linter.unusedSimpArgs false
open Go.Proofs
set_option maxHeartbeats 4000000
theorem rows_setB {xs : List Bool} {r n : Nat} {v : Bool} (hr : r < xs.length) : RowsEq kB n (setRow (encL encBo xs) r 0 [.b v]) (encL encBo (xs.set r v)) :=
 rowsEq_set hr ⟨rfl, trivial⟩
def msM (x : MS) (a : Nat) (m0 m2 m3 m4 : Md) : List (Nat × Blk) := [(a, .one m0 (msC x a)), (a + 1, .rows .bor kG 1 (encG x.g)), (a + 2, .rows m2 k1 x.g.es.length (encL encI x.ts)), (a + 3, .rows m3 kB x.g.n (encL encBo x.src)), (a + 4, .rows m4 k1 x.dist.length (encL encI x.dist)), (a + 5, .rows m4 k1 x.so.length (encL encI x.so))]
def isT (t : Int) : Bool := decide (1 <= t /\ t <= 1048576)
def isTC : CT where
 X := Int
 pre := fun _ => True
 args := fun t => [.i .i64 t]
 g0 := fun _ => []
 res := fun t => .b (isT t)
 g1 := fun _ => []
set_option maxRecDepth 100000 in
theorem ist_keeps : Keeps cfgN0 Try.f23 isTC noIv := Eq.mp (show ((∀ x1 : Int, (True -> (((decide ((1 : Int) <= x1) = true)-> ((decide (x1 <= (1048576 : Int)) = isT x1)/\True))/\((decide ((1 : Int) <= x1) = false)-> ((false = isT x1)/\True)))))) = (Keeps cfgN0 Try.f23 isTC noIv) by kernel_rfl) (fun x1 => fun h2 => ⟨fun g3 => have h3 := of_decide_eq_true g3; ⟨(by apply decide_eq_decide.2; omega),trivial⟩,
fun g4 => have h4 := of_decide_eq_false g4; ⟨((decide_eq_false (by omega)).symm),trivial⟩⟩)
theorem ist_good : Good Try.prog 23 isTC /\ FnOk Try.prog 23 := good_of tok conN0 (fn := Try.f23) rfl (by decide +kernel) (fun _ => rfl) ist_keeps
structure MNx where
 m : MS
 v : Int
def inN1 (x : MS) (v : Int) : Bool := decide (0 <= v /\ v < x.g.n)
def isNdC : CT where
 X := MNx
 pre := fun _ => True
 args := fun x => [.p 100000 0 0, .i .i64 x.v]
 g0 := fun x => msH x.m 100000 .bor
 res := fun x => .b (inN1 x.m x.v)
 g1 := fun _ => []
set_option maxRecDepth 100000 in
theorem isnd_keeps : Keeps cfgN0 Try.f24 isNdC noIv := Eq.mp (show ((∀ x1 : MNx, (True -> (((decide ((0 : Int) <= x1.v) = true)-> ((decide (x1.v < (x1.m.g.n : Int)) = inN1 x1.m x1.v)/\True))/\((decide ((0 : Int) <= x1.v) = false)-> ((false = inN1 x1.m x1.v)/\True)))))) = (Keeps cfgN0 Try.f24 isNdC noIv) by kernel_rfl) (fun x1 => fun h2 => ⟨fun g3 => have h3 := of_decide_eq_true g3; ⟨(by apply decide_eq_decide.2; omega),trivial⟩,
fun g4 => have h4 := of_decide_eq_false g4; ⟨((decide_eq_false (by omega)).symm),trivial⟩⟩)
theorem isnd_good : Good Try.prog 24 isNdC /\ FnOk Try.prog 24 := good_of tok conN0 (fn := Try.f24) rfl (by decide +kernel) (fun _ => rfl) isnd_keeps
def addM (x : MS) (v : Int) : MS := if inN1 x v = true /\ x.src.getD v.toNat default = false then { x with src := x.src.set v.toNat true, od := true } else x
def addE (x : MS) (v : Int) : Int := if inN1 x v = true then if x.src.getD v.toNat default = true then 5 else 0 else 1
def remM (x : MS) (v : Int) : MS := if inN1 x v = true /\ x.src.getD v.toNat default = true then { x with src := x.src.set v.toNat false, od := true } else x
def remB (x : MS) (v : Int) : Bool := inN1 x v && x.src.getD v.toNat default
def chH (x : MS) : List (Nat × Blk) := [(100000, .one .own (msC x 100000)), (100003, .rows .own kB x.g.n (encL encBo x.src))]
theorem addM_g (x : MS) (v : Int) : (addM x v).g = x.g /\ (addM x v).ts = x.ts /\ (addM x v).dist = x.dist /\ (addM x v).so = x.so := by unfold addM; split <;> exact ⟨rfl, rfl, rfl, rfl⟩
theorem remM_g (x : MS) (v : Int) : (remM x v).g = x.g /\ (remM x v).ts = x.ts /\ (remM x v).dist = x.dist /\ (remM x v).so = x.so := by unfold remM; split <;> exact ⟨rfl, rfl, rfl, rfl⟩
theorem inN1_yes {x : MS} {v : Int} (h : (!inN1 x v) = false) : 0 <= v /\ v < x.g.n := by
 have : inN1 x v = true := by simpa using h
 exact of_decide_eq_true this
theorem add_1 {x : MS} {v : Int} (h : (!inN1 x v) = true) : addM x v = x /\ addE x v = 1 := by
 have : inN1 x v = false := by simpa using h
 unfold addM addE; rw [this]; exact ⟨if_neg (fun q => by cases q.1), rfl⟩
theorem add_2 {x : MS} {v : Int} (h : (!inN1 x v) = false) (h2 : x.src.getD v.toNat default = true) : addM x v = x /\ addE x v = 5 := by
 have : inN1 x v = true := by simpa using h
 unfold addM addE; rw [this, h2]; exact ⟨if_neg (fun q => by cases q.2), rfl⟩
theorem add_3 {x : MS} {v : Int} (h : (!inN1 x v) = false) (h2 : x.src.getD v.toNat default = false) : addM x v = { x with src := x.src.set v.toNat true, od := true } /\ addE x v = 0 := by
 have : inN1 x v = true := by simpa using h
 unfold addM addE; rw [this, h2]; exact ⟨if_pos ⟨rfl, rfl⟩, rfl⟩
theorem rem_1 {x : MS} {v : Int} (h : (!inN1 x v) = true) : remM x v = x /\ remB x v = false := by
 have : inN1 x v = false := by simpa using h
 unfold remM remB; rw [this]; exact ⟨if_neg (fun q => by cases q.1), rfl⟩
theorem rem_2 {x : MS} {v : Int} (h : (!inN1 x v) = false) (h2 : x.src.getD v.toNat default = false) : remM x v = x /\ remB x v = false := by
 have : inN1 x v = true := by simpa using h
 unfold remM remB; rw [this, h2]; exact ⟨if_neg (fun q => by cases q.2), rfl⟩
theorem rem_3 {x : MS} {v : Int} (h : (!inN1 x v) = false) (h2 : x.src.getD v.toNat default = true) : remM x v = { x with src := x.src.set v.toNat false, od := true } /\ remB x v = true := by
 have : inN1 x v = true := by simpa using h
 unfold remM remB; rw [this, h2]; exact ⟨if_pos ⟨rfl, rfl⟩, rfl⟩
def addSC : CT where
 X := MNx
 pre := fun x => x.m.src.length = x.m.g.n
 args := fun x => [.p 100000 0 0, .i .i64 x.v]
 g0 := fun x => msM x.m 100000 .own .bor .own .bor
 res := fun x => .i .i64 (addE x.m x.v)
 g1 := fun x => chH (addM x.m x.v)
def remSC : CT where
 X := MNx
 pre := fun x => x.m.src.length = x.m.g.n
 args := fun x => [.p 100000 0 0, .i .i64 x.v]
 g0 := fun x => msM x.m 100000 .own .bor .own .bor
 res := fun x => .b (remB x.m x.v)
 g1 := fun x => chH (remM x.m x.v)
def cfgJ4 : Cfg := ⟨T, [], [(24, .one isNdC)], noInv, 30, {}⟩
theorem conJ4 : ConOk Try.prog cfgJ4 := ConL.ok (.cons (ConL.one isnd_good) .nil)
set_option maxRecDepth 100000 in
theorem addS_keeps : Keeps cfgJ4 Try.f9 addSC noIv := Eq.mp (show ((∀ x1 : MNx, (x1.m.src.length = x1.m.g.n -> (∃ x3 : MNx, (True/\(((0=0 /\ 0=0)/\(x1.v = x3.v/\True))/\((((0=0 /\ 0=0)/\((0=0 /\ x1.m.g.es.length = x3.m.g.es.length)/\((0=0 /\ x1.m.g.n = x3.m.g.n)/\((0=0 /\ x1.m.dist.length = x3.m.dist.length)/\((0=0 /\ x1.m.so.length = x3.m.so.length)/\(x1.m.od = x3.m.od/\True))))))/\((RLe 1 1/\(RowsEq [.sl [.int .i64, .int .i64, .int .i64], .sl [.sl [.int .i64]], .sl [.sl [.int .i64]]] 1 (encG x1.m.g) (encG x3.m.g)))/\(((RLe x3.m.g.es.length x1.m.g.es.length)/\(RowsEq [.int .i64] x3.m.g.es.length (encL encI x1.m.ts) (encL encI x3.m.ts)))/\(((RLe x3.m.g.n x1.m.g.n)/\(RowsEq (Kd.bool :: []) x3.m.g.n (encL encBo x1.m.src) (encL encBo x3.m.src)))/\(((RLe x3.m.dist.length x1.m.dist.length)/\(RowsEq [.int .i64] x3.m.dist.length (encL encI x1.m.dist) (encL encI x3.m.dist)))/\(((RLe x3.m.so.length x1.m.so.length)/\(RowsEq [.int .i64] x3.m.so.length (encL encI x1.m.so) (encL encI x3.m.so)))/\True))))))/\((((!inN1 x3.m x3.v) = true)-> (((1 : Int) = addE x1.m x1.v)/\(((0=0 /\ 0=0)/\((0=0/\(x1.m.g.es.length = (addM x1.m x1.v).g.es.length))/\((0=0/\(x1.m.g.n = (addM x1.m x1.v).g.n))/\((0=0/\(x1.m.dist.length = (addM x1.m x1.v).dist.length))/\((0=0/\(x1.m.so.length = (addM x1.m x1.v).so.length))/\((x1.m.od = (addM x1.m x1.v).od)/\True))))))/\(((RLe (addM x1.m x1.v).g.n x1.m.g.n)/\(RowsEq (Kd.bool :: []) (addM x1.m x1.v).g.n (encL encBo x1.m.src) (encL encBo (addM x1.m x1.v).src)))/\True))))/\(((!inN1 x3.m x3.v) = false)-> ((((0 : Int) <= x1.v)/\(x1.v < (x1.m.g.n : Int)))/\((0 + Int.toNat x1.v < x1.m.g.n)/\(((x1.m.src.getD (0 + Int.toNat x1.v) default = true)-> (((5 : Int) = addE x1.m x1.v)/\(((0=0 /\ 0=0)/\((0=0/\(x1.m.g.es.length = (addM x1.m x1.v).g.es.length))/\((0=0/\(x1.m.g.n = (addM x1.m x1.v).g.n))/\((0=0/\(x1.m.dist.length = (addM x1.m x1.v).dist.length))/\((0=0/\(x1.m.so.length = (addM x1.m x1.v).so.length))/\((x1.m.od = (addM x1.m x1.v).od)/\True))))))/\(((RLe (addM x1.m x1.v).g.n x1.m.g.n)/\(RowsEq (Kd.bool :: []) (addM x1.m x1.v).g.n (encL encBo x1.m.src) (encL encBo (addM x1.m x1.v).src)))/\True))))/\((x1.m.src.getD (0 + Int.toNat x1.v) default = false)-> ((((0 : Int) <= x1.v)/\(x1.v < (x1.m.g.n : Int)))/\(((0 + Int.toNat x1.v < x1.m.g.n)/\(True/\True))/\(((0 : Int) = addE x1.m x1.v)/\(((0=0 /\ 0=0)/\((0=0/\(x1.m.g.es.length = (addM x1.m x1.v).g.es.length))/\((0=0/\(x1.m.g.n = (addM x1.m x1.v).g.n))/\((0=0/\(x1.m.dist.length = (addM x1.m x1.v).dist.length))/\((0=0/\(x1.m.so.length = (addM x1.m x1.v).so.length))/\((true = (addM x1.m x1.v).od)/\True))))))/\(((RLe (addM x1.m x1.v).g.n x1.m.g.n)/\(RowsEq (Kd.bool :: []) (addM x1.m x1.v).g.n (setRow (encL encBo x1.m.src) (0 + Int.toNat x1.v) 0 (D.b true :: @List.nil D)) (encL encBo (addM x1.m x1.v).src)))/\True)))))))))))))))))) = (Keeps cfgJ4 Try.f9 addSC noIv) by kernel_rfl) (fun x1 => fun h2 => ⟨(x1),trivial,
⟨⟨rfl,rfl⟩,rfl,trivial⟩,
⟨⟨⟨rfl,rfl⟩,
⟨rfl,rfl⟩,
⟨rfl,rfl⟩,
⟨rfl,rfl⟩,
⟨rfl,rfl⟩,rfl,trivial⟩,
⟨⟨Nat.le_refl _⟩,RowsEq.rfl'⟩,
⟨⟨Nat.le_refl _⟩,RowsEq.rfl'⟩,
⟨⟨Nat.le_refl _⟩,RowsEq.rfl'⟩,
⟨⟨Nat.le_refl _⟩,RowsEq.rfl'⟩,
⟨⟨Nat.le_refl _⟩,RowsEq.rfl'⟩,trivial⟩,
fun h4 => ⟨((add_1 (x := x1.m) (v := x1.v) ‹_›).2.symm),
⟨⟨rfl,rfl⟩,
⟨rfl,
(by rw [(add_1 (x := x1.m) (v := x1.v) ‹_›).1])⟩,
⟨rfl,
(by rw [(add_1 (x := x1.m) (v := x1.v) ‹_›).1])⟩,
⟨rfl,
(by rw [(add_1 (x := x1.m) (v := x1.v) ‹_›).1])⟩,
⟨rfl,
(by rw [(add_1 (x := x1.m) (v := x1.v) ‹_›).1])⟩,
(by rw [(add_1 (x := x1.m) (v := x1.v) ‹_›).1]),trivial⟩,
⟨⟨(by rw [(add_1 (x := x1.m) (v := x1.v) ‹_›).1]; exact Nat.le_refl _)⟩,
(by rw [(add_1 (x := x1.m) (v := x1.v) ‹_›).1]; exact RowsEq.rfl')⟩,trivial⟩,
fun h5 => ⟨⟨(by have q := inN1_yes ‹_›; omega),
(by have q := inN1_yes ‹_›; omega)⟩,
(by have q := inN1_yes ‹_›; omega),
fun h6 => ⟨(by (try simp only [Nat.zero_add] at *); have e := add_2 (x := x1.m) (v := x1.v) ‹_› ‹_›; exact e.2.symm),
⟨⟨rfl,rfl⟩,
⟨rfl,
(by (try simp only [Nat.zero_add] at *); have e := add_2 (x := x1.m) (v := x1.v) ‹_› ‹_›; (rw [e.1]; done))⟩,
⟨rfl,
(by (try simp only [Nat.zero_add] at *); have e := add_2 (x := x1.m) (v := x1.v) ‹_› ‹_›; (rw [e.1]; done))⟩,
⟨rfl,
(by (try simp only [Nat.zero_add] at *); have e := add_2 (x := x1.m) (v := x1.v) ‹_› ‹_›; (rw [e.1]; done))⟩,
⟨rfl,
(by (try simp only [Nat.zero_add] at *); have e := add_2 (x := x1.m) (v := x1.v) ‹_› ‹_›; (rw [e.1]; done))⟩,
(by (try simp only [Nat.zero_add] at *); have e := add_2 (x := x1.m) (v := x1.v) ‹_› ‹_›; (rw [e.1]; done)),trivial⟩,
⟨⟨(by (try simp only [Nat.zero_add] at *); have e := add_2 (x := x1.m) (v := x1.v) ‹_› ‹_›; (rw [e.1]; exact Nat.le_refl _))⟩,
(by (try simp only [Nat.zero_add] at *); have e := add_2 (x := x1.m) (v := x1.v) ‹_› ‹_›; (rw [e.1]; exact RowsEq.rfl'))⟩,trivial⟩,
fun h7 => ⟨⟨(by have q := inN1_yes ‹_›; omega),
(by have q := inN1_yes ‹_›; omega)⟩,
⟨(by have q := inN1_yes ‹_›; omega),trivial,trivial⟩,
(by (try simp only [Nat.zero_add] at *); have e := add_3 (x := x1.m) (v := x1.v) ‹_› ‹_›; exact e.2.symm),
⟨⟨rfl,rfl⟩,
⟨rfl,
(by (try simp only [Nat.zero_add] at *); have e := add_3 (x := x1.m) (v := x1.v) ‹_› ‹_›; (rw [e.1]; done))⟩,
⟨rfl,
(by (try simp only [Nat.zero_add] at *); have e := add_3 (x := x1.m) (v := x1.v) ‹_› ‹_›; (rw [e.1]; done))⟩,
⟨rfl,
(by (try simp only [Nat.zero_add] at *); have e := add_3 (x := x1.m) (v := x1.v) ‹_› ‹_›; (rw [e.1]; done))⟩,
⟨rfl,
(by (try simp only [Nat.zero_add] at *); have e := add_3 (x := x1.m) (v := x1.v) ‹_› ‹_›; (rw [e.1]; done))⟩,
(by (try simp only [Nat.zero_add] at *); have e := add_3 (x := x1.m) (v := x1.v) ‹_› ‹_›; (rw [e.1]; done)),trivial⟩,
⟨⟨(by (try simp only [Nat.zero_add] at *); have e := add_3 (x := x1.m) (v := x1.v) ‹_› ‹_›; (rw [e.1]; exact Nat.le_refl _))⟩,
(by (try simp only [Nat.zero_add] at *); have e := add_3 (x := x1.m) (v := x1.v) ‹_› ‹_›; (rw [e.1]; exact rows_setB (by have q := inN1_yes ‹_›; omega)))⟩,trivial⟩⟩⟩)
theorem addS_good : Good Try.prog 9 addSC /\ FnOk Try.prog 9 := good_of tok conJ4 (fn := Try.f9) rfl (by decide +kernel) (fun _ => rfl) addS_keeps
set_option maxRecDepth 100000 in
theorem remS_keeps : Keeps cfgJ4 Try.f10 remSC noIv := Eq.mp (show ((∀ x1 : MNx, (x1.m.src.length = x1.m.g.n -> (∃ x3 : MNx, (True/\(((0=0 /\ 0=0)/\(x1.v = x3.v/\True))/\((((0=0 /\ 0=0)/\((0=0 /\ x1.m.g.es.length = x3.m.g.es.length)/\((0=0 /\ x1.m.g.n = x3.m.g.n)/\((0=0 /\ x1.m.dist.length = x3.m.dist.length)/\((0=0 /\ x1.m.so.length = x3.m.so.length)/\(x1.m.od = x3.m.od/\True))))))/\((RLe 1 1/\(RowsEq [.sl [.int .i64, .int .i64, .int .i64], .sl [.sl [.int .i64]], .sl [.sl [.int .i64]]] 1 (encG x1.m.g) (encG x3.m.g)))/\(((RLe x3.m.g.es.length x1.m.g.es.length)/\(RowsEq [.int .i64] x3.m.g.es.length (encL encI x1.m.ts) (encL encI x3.m.ts)))/\(((RLe x3.m.g.n x1.m.g.n)/\(RowsEq (Kd.bool :: []) x3.m.g.n (encL encBo x1.m.src) (encL encBo x3.m.src)))/\(((RLe x3.m.dist.length x1.m.dist.length)/\(RowsEq [.int .i64] x3.m.dist.length (encL encI x1.m.dist) (encL encI x3.m.dist)))/\(((RLe x3.m.so.length x1.m.so.length)/\(RowsEq [.int .i64] x3.m.so.length (encL encI x1.m.so) (encL encI x3.m.so)))/\True))))))/\((((!inN1 x3.m x3.v) = false)-> ((((0 : Int) <= x1.v)/\(x1.v < (x1.m.g.n : Int)))/\((0 + Int.toNat x1.v < x1.m.g.n)/\((((!x1.m.src.getD (0 + Int.toNat x1.v) default) = true)-> ((false = remB x1.m x1.v)/\(((0=0 /\ 0=0)/\((0=0/\(x1.m.g.es.length = (remM x1.m x1.v).g.es.length))/\((0=0/\(x1.m.g.n = (remM x1.m x1.v).g.n))/\((0=0/\(x1.m.dist.length = (remM x1.m x1.v).dist.length))/\((0=0/\(x1.m.so.length = (remM x1.m x1.v).so.length))/\((x1.m.od = (remM x1.m x1.v).od)/\True))))))/\(((RLe (remM x1.m x1.v).g.n x1.m.g.n)/\(RowsEq (Kd.bool :: []) (remM x1.m x1.v).g.n (encL encBo x1.m.src) (encL encBo (remM x1.m x1.v).src)))/\True))))/\(((!x1.m.src.getD (0 + Int.toNat x1.v) default) = false)-> ((((0 : Int) <= x1.v)/\(x1.v < (x1.m.g.n : Int)))/\(((0 + Int.toNat x1.v < x1.m.g.n)/\(True/\True))/\((true = remB x1.m x1.v)/\(((0=0 /\ 0=0)/\((0=0/\(x1.m.g.es.length = (remM x1.m x1.v).g.es.length))/\((0=0/\(x1.m.g.n = (remM x1.m x1.v).g.n))/\((0=0/\(x1.m.dist.length = (remM x1.m x1.v).dist.length))/\((0=0/\(x1.m.so.length = (remM x1.m x1.v).so.length))/\((true = (remM x1.m x1.v).od)/\True))))))/\(((RLe (remM x1.m x1.v).g.n x1.m.g.n)/\(RowsEq (Kd.bool :: []) (remM x1.m x1.v).g.n (setRow (encL encBo x1.m.src) (0 + Int.toNat x1.v) 0 (D.b false :: @List.nil D)) (encL encBo (remM x1.m x1.v).src)))/\True))))))))))/\(((!inN1 x3.m x3.v) = true)-> ((false = remB x1.m x1.v)/\(((0=0 /\ 0=0)/\((0=0/\(x1.m.g.es.length = (remM x1.m x1.v).g.es.length))/\((0=0/\(x1.m.g.n = (remM x1.m x1.v).g.n))/\((0=0/\(x1.m.dist.length = (remM x1.m x1.v).dist.length))/\((0=0/\(x1.m.so.length = (remM x1.m x1.v).so.length))/\((x1.m.od = (remM x1.m x1.v).od)/\True))))))/\(((RLe (remM x1.m x1.v).g.n x1.m.g.n)/\(RowsEq (Kd.bool :: []) (remM x1.m x1.v).g.n (encL encBo x1.m.src) (encL encBo (remM x1.m x1.v).src)))/\True)))))))))))) = (Keeps cfgJ4 Try.f10 remSC noIv) by kernel_rfl) (fun x1 => fun h2 => ⟨(x1),trivial,
⟨⟨rfl,rfl⟩,rfl,trivial⟩,
⟨⟨⟨rfl,rfl⟩,
⟨rfl,rfl⟩,
⟨rfl,rfl⟩,
⟨rfl,rfl⟩,
⟨rfl,rfl⟩,rfl,trivial⟩,
⟨⟨Nat.le_refl _⟩,RowsEq.rfl'⟩,
⟨⟨Nat.le_refl _⟩,RowsEq.rfl'⟩,
⟨⟨Nat.le_refl _⟩,RowsEq.rfl'⟩,
⟨⟨Nat.le_refl _⟩,RowsEq.rfl'⟩,
⟨⟨Nat.le_refl _⟩,RowsEq.rfl'⟩,trivial⟩,
fun h4 => ⟨⟨(by have q := inN1_yes ‹_›; omega),
(by have q := inN1_yes ‹_›; omega)⟩,
(by have q := inN1_yes ‹_›; omega),
fun h5 => ⟨(by (try simp only [Nat.zero_add] at *); have e := rem_2 (x := x1.m) (v := x1.v) ‹_› (by simpa using ‹(!x1.m.src.getD x1.v.toNat default) = true›); exact e.2.symm),
⟨⟨rfl,rfl⟩,
⟨rfl,
(by (try simp only [Nat.zero_add] at *); have e := rem_2 (x := x1.m) (v := x1.v) ‹_› (by simpa using ‹(!x1.m.src.getD x1.v.toNat default) = true›); (rw [e.1]; done))⟩,
⟨rfl,
(by (try simp only [Nat.zero_add] at *); have e := rem_2 (x := x1.m) (v := x1.v) ‹_› (by simpa using ‹(!x1.m.src.getD x1.v.toNat default) = true›); (rw [e.1]; done))⟩,
⟨rfl,
(by (try simp only [Nat.zero_add] at *); have e := rem_2 (x := x1.m) (v := x1.v) ‹_› (by simpa using ‹(!x1.m.src.getD x1.v.toNat default) = true›); (rw [e.1]; done))⟩,
⟨rfl,
(by (try simp only [Nat.zero_add] at *); have e := rem_2 (x := x1.m) (v := x1.v) ‹_› (by simpa using ‹(!x1.m.src.getD x1.v.toNat default) = true›); (rw [e.1]; done))⟩,
(by (try simp only [Nat.zero_add] at *); have e := rem_2 (x := x1.m) (v := x1.v) ‹_› (by simpa using ‹(!x1.m.src.getD x1.v.toNat default) = true›); (rw [e.1]; done)),trivial⟩,
⟨⟨(by (try simp only [Nat.zero_add] at *); have e := rem_2 (x := x1.m) (v := x1.v) ‹_› (by simpa using ‹(!x1.m.src.getD x1.v.toNat default) = true›); (rw [e.1]; exact Nat.le_refl _))⟩,
(by (try simp only [Nat.zero_add] at *); have e := rem_2 (x := x1.m) (v := x1.v) ‹_› (by simpa using ‹(!x1.m.src.getD x1.v.toNat default) = true›); (rw [e.1]; exact RowsEq.rfl'))⟩,trivial⟩,
fun h6 => ⟨⟨(by have q := inN1_yes ‹_›; omega),
(by have q := inN1_yes ‹_›; omega)⟩,
⟨(by have q := inN1_yes ‹_›; omega),trivial,trivial⟩,
(by (try simp only [Nat.zero_add] at *); have e := rem_3 (x := x1.m) (v := x1.v) ‹_› (by simpa using ‹(!x1.m.src.getD x1.v.toNat default) = false›); exact e.2.symm),
⟨⟨rfl,rfl⟩,
⟨rfl,
(by (try simp only [Nat.zero_add] at *); have e := rem_3 (x := x1.m) (v := x1.v) ‹_› (by simpa using ‹(!x1.m.src.getD x1.v.toNat default) = false›); (rw [e.1]; done))⟩,
⟨rfl,
(by (try simp only [Nat.zero_add] at *); have e := rem_3 (x := x1.m) (v := x1.v) ‹_› (by simpa using ‹(!x1.m.src.getD x1.v.toNat default) = false›); (rw [e.1]; done))⟩,
⟨rfl,
(by (try simp only [Nat.zero_add] at *); have e := rem_3 (x := x1.m) (v := x1.v) ‹_› (by simpa using ‹(!x1.m.src.getD x1.v.toNat default) = false›); (rw [e.1]; done))⟩,
⟨rfl,
(by (try simp only [Nat.zero_add] at *); have e := rem_3 (x := x1.m) (v := x1.v) ‹_› (by simpa using ‹(!x1.m.src.getD x1.v.toNat default) = false›); (rw [e.1]; done))⟩,
(by (try simp only [Nat.zero_add] at *); have e := rem_3 (x := x1.m) (v := x1.v) ‹_› (by simpa using ‹(!x1.m.src.getD x1.v.toNat default) = false›); (rw [e.1]; done)),trivial⟩,
⟨⟨(by (try simp only [Nat.zero_add] at *); have e := rem_3 (x := x1.m) (v := x1.v) ‹_› (by simpa using ‹(!x1.m.src.getD x1.v.toNat default) = false›); (rw [e.1]; exact Nat.le_refl _))⟩,
(by (try simp only [Nat.zero_add] at *); have e := rem_3 (x := x1.m) (v := x1.v) ‹_› (by simpa using ‹(!x1.m.src.getD x1.v.toNat default) = false›); (rw [e.1]; exact rows_setB (by have q := inN1_yes ‹_›; omega)))⟩,trivial⟩⟩,
fun h7 => ⟨((rem_1 (x := x1.m) (v := x1.v) ‹_›).2.symm),
⟨⟨rfl,rfl⟩,
⟨rfl,
(by rw [(rem_1 (x := x1.m) (v := x1.v) ‹_›).1])⟩,
⟨rfl,
(by rw [(rem_1 (x := x1.m) (v := x1.v) ‹_›).1])⟩,
⟨rfl,
(by rw [(rem_1 (x := x1.m) (v := x1.v) ‹_›).1])⟩,
⟨rfl,
(by rw [(rem_1 (x := x1.m) (v := x1.v) ‹_›).1])⟩,
(by rw [(rem_1 (x := x1.m) (v := x1.v) ‹_›).1]),trivial⟩,
⟨⟨(by rw [(rem_1 (x := x1.m) (v := x1.v) ‹_›).1]; exact Nat.le_refl _)⟩,
(by rw [(rem_1 (x := x1.m) (v := x1.v) ‹_›).1]; exact RowsEq.rfl')⟩,trivial⟩⟩)
theorem remS_good : Good Try.prog 10 remSC /\ FnOk Try.prog 10 := good_of tok conJ4 (fn := Try.f10) rfl (by decide +kernel) (fun _ => rfl) remS_keeps
def srcsC : CT where
 X := MS
 pre := fun x => x.src.length = x.g.n /\ x.g.n <= 12
 args := fun x => [.p 100000 0 0]
 g0 := fun x => msH x 100000 .bor
 res := fun x => .sl 1 0 (srcL x.src).length
 g1 := fun x => [(1, .rows .own k1 (srcL x.src).length (encL encI (srcL x.src)))]
def srcsI (x : MS) (id : Nat) : Option Inv := match id with
 | 0 => some { X := Nat, ok := fun k => k <= x.src.length, fr := fun k => [(11, .i .i64 k), (3, .sl 61 0 (srcAt x.src k).length)], hp := fun k => [(61, .rows .own k1 (srcAt x.src k).length (encL encI (srcAt x.src k)))], me := fun k => x.src.length - k }
 | _ => none
theorem srcs_rows {l : List Int} {c : Int} : RowsEq k1 (l ++ [c]).length (appRows l.length (encL encI l) 0 (litRows [[.i c]])) (encL encI (l ++ [c])) := rowsEq_push rfl (by simp) ⟨rfl, trivial⟩
set_option maxRecDepth 100000 in
theorem srcs_keeps : Keeps cfgN0 Try.f13 srcsC srcsI := Eq.mp (show ((∀ x1 : MS, ((x1.src.length = x1.g.n /\ x1.g.n <= (12 : Nat))-> (∃ x3 : Nat, (((x3 <= x1.src.length)/\(((0 = (x3 : Int))/\((True/\(0=0/\((srcAt x1.src x3).length = (0 : Nat))))/\(((x1.g.n : Int) = (x1.g.n : Int))/\((0=0 /\ x1.g.n = x1.g.n)/\((0=0/\((2 : Nat) = (2 : Nat)))/\((0=0 /\ 0=0)/\((0=0 /\ 0=0)/\(True/\((0=0 /\ 0=0)/\True)))))))))/\(((srcAt x1.src x3).length = (0 : Nat))/\(((0=0 /\ 0=0)/\((0=0 /\ x1.g.es.length = x1.g.es.length)/\((0=0 /\ x1.g.n = x1.g.n)/\((0=0 /\ x1.dist.length = x1.dist.length)/\((0=0 /\ x1.so.length = x1.so.length)/\(x1.od = x1.od/\True))))))/\((RLe 1 1/\(RowsEq [.sl [.int .i64, .int .i64, .int .i64], .sl [.sl [.int .i64]], .sl [.sl [.int .i64]]] 1 (encG x1.g) (encG x1.g)))/\(((RLe x1.g.es.length x1.g.es.length)/\(RowsEq [.int .i64] x1.g.es.length (encL encI x1.ts) (encL encI x1.ts)))/\(((RLe x1.g.n x1.g.n)/\(RowsEq (Kd.bool :: []) x1.g.n (encL encBo x1.src) (encL encBo x1.src)))/\(((RLe x1.dist.length x1.dist.length)/\(RowsEq [.int .i64] x1.dist.length (encL encI x1.dist) (encL encI x1.dist)))/\(((RLe x1.so.length x1.so.length)/\(RowsEq [.int .i64] x1.so.length (encL encI x1.so) (encL encI x1.so)))/\True)))))))))/\(∀ x4 : Nat, ((x4 <= x1.src.length)-> (((decide ((x4 : Int) < (x1.g.n : Int)) = true)-> ((((0 : Int) <= (x4 : Int))/\((x4 : Int) < (x1.g.n : Int)))/\((0 + Int.toNat (x4 : Int) < x1.g.n)/\(((x1.src.getD (0 + Int.toNat (x4 : Int)) default = true)-> (((True/\True)/\True)/\((0=0/\(((srcAt x1.src x4).length <= (srcAt x1.src x4).length)/\(((1 : Nat) <= (1 : Nat))/\((srcAt x1.src x4).length + (1 : Nat) <= (1073741824 : Nat)))))/\((((-9223372036854775808 : Int) <= (x4 : Int) + 1)/\((x4 : Int) + 1 <= (9223372036854775807 : Int)))/\(∃ x8 : Nat, ((x1.src.length - x8 < x1.src.length - x4)/\((x8 <= x1.src.length)/\((((x4 : Int) + 1 = (x8 : Int))/\((0=0/\((srcAt x1.src x4).length + (1 : Nat) = (srcAt x1.src x8).length))/\(((x1.g.n : Int) = (x1.g.n : Int))/\((0=0 /\ x1.g.n = x1.g.n)/\((0=0/\((2 : Nat) = (2 : Nat)))/\((0=0 /\ 0=0)/\((0=0 /\ 0=0)/\(True/\((0=0 /\ 0=0)/\True)))))))))/\(((RLe (srcAt x1.src x8).length ((srcAt x1.src x4).length + (1 : Nat)))/\(RowsEq [.int .i64] (srcAt x1.src x8).length (appRows (srcAt x1.src x4).length (encL encI (srcAt x1.src x4)) 0 (litRows ((D.i (x4 : Int) :: @List.nil D) :: @List.nil (List D)))) (encL encI (srcAt x1.src x8))))/\(((0=0 /\ 0=0)/\((0=0 /\ x1.g.es.length = x1.g.es.length)/\((0=0 /\ x1.g.n = x1.g.n)/\((0=0 /\ x1.dist.length = x1.dist.length)/\((0=0 /\ x1.so.length = x1.so.length)/\(x1.od = x1.od/\True))))))/\((RLe 1 1/\(RowsEq [.sl [.int .i64, .int .i64, .int .i64], .sl [.sl [.int .i64]], .sl [.sl [.int .i64]]] 1 (encG x1.g) (encG x1.g)))/\(((RLe x1.g.es.length x1.g.es.length)/\(RowsEq [.int .i64] x1.g.es.length (encL encI x1.ts) (encL encI x1.ts)))/\(((RLe x1.g.n x1.g.n)/\(RowsEq (Kd.bool :: []) x1.g.n (encL encBo x1.src) (encL encBo x1.src)))/\(((RLe x1.dist.length x1.dist.length)/\(RowsEq [.int .i64] x1.dist.length (encL encI x1.dist) (encL encI x1.dist)))/\(((RLe x1.so.length x1.so.length)/\(RowsEq [.int .i64] x1.so.length (encL encI x1.so) (encL encI x1.so)))/\True)))))))))))))))/\((x1.src.getD (0 + Int.toNat (x4 : Int)) default = false)-> ((((-9223372036854775808 : Int) <= (x4 : Int) + 1)/\((x4 : Int) + 1 <= (9223372036854775807 : Int)))/\(∃ x10 : Nat, ((x1.src.length - x10 < x1.src.length - x4)/\((x10 <= x1.src.length)/\((((x4 : Int) + 1 = (x10 : Int))/\((0=0/\((srcAt x1.src x4).length = (srcAt x1.src x10).length))/\(((x1.g.n : Int) = (x1.g.n : Int))/\((0=0 /\ x1.g.n = x1.g.n)/\((0=0/\((2 : Nat) = (2 : Nat)))/\((0=0 /\ 0=0)/\((0=0 /\ 0=0)/\(True/\((0=0 /\ 0=0)/\True)))))))))/\(((RLe (srcAt x1.src x10).length (srcAt x1.src x4).length)/\(RowsEq [.int .i64] (srcAt x1.src x10).length (encL encI (srcAt x1.src x4)) (encL encI (srcAt x1.src x10))))/\(((0=0 /\ 0=0)/\((0=0 /\ x1.g.es.length = x1.g.es.length)/\((0=0 /\ x1.g.n = x1.g.n)/\((0=0 /\ x1.dist.length = x1.dist.length)/\((0=0 /\ x1.so.length = x1.so.length)/\(x1.od = x1.od/\True))))))/\((RLe 1 1/\(RowsEq [.sl [.int .i64, .int .i64, .int .i64], .sl [.sl [.int .i64]], .sl [.sl [.int .i64]]] 1 (encG x1.g) (encG x1.g)))/\(((RLe x1.g.es.length x1.g.es.length)/\(RowsEq [.int .i64] x1.g.es.length (encL encI x1.ts) (encL encI x1.ts)))/\(((RLe x1.g.n x1.g.n)/\(RowsEq (Kd.bool :: []) x1.g.n (encL encBo x1.src) (encL encBo x1.src)))/\(((RLe x1.dist.length x1.dist.length)/\(RowsEq [.int .i64] x1.dist.length (encL encI x1.dist) (encL encI x1.dist)))/\(((RLe x1.so.length x1.so.length)/\(RowsEq [.int .i64] x1.so.length (encL encI x1.so) (encL encI x1.so)))/\True)))))))))))))))))/\((decide ((x4 : Int) < (x1.g.n : Int)) = false)-> ((0=0/\((srcAt x1.src x4).length = (srcL x1.src).length))/\(((RLe (srcL x1.src).length (srcAt x1.src x4).length)/\(RowsEq [.int .i64] (srcL x1.src).length (encL encI (srcAt x1.src x4)) (encL encI (srcL x1.src))))/\True))))))))))) = (Keeps cfgN0 Try.f13 srcsC srcsI) by kernel_rfl) (fun x1 => fun h2 => ⟨((0 : Nat)),
⟨(by omega),
⟨(by omega),
⟨trivial,rfl,rfl⟩,rfl,
⟨rfl,rfl⟩,
⟨rfl,rfl⟩,
⟨rfl,rfl⟩,
⟨rfl,rfl⟩,trivial,
⟨rfl,rfl⟩,trivial⟩,rfl,
⟨⟨rfl,rfl⟩,
⟨rfl,rfl⟩,
⟨rfl,rfl⟩,
⟨rfl,rfl⟩,
⟨rfl,rfl⟩,rfl,trivial⟩,
⟨⟨Nat.le_refl _⟩,RowsEq.rfl'⟩,
⟨⟨Nat.le_refl _⟩,RowsEq.rfl'⟩,
⟨⟨Nat.le_refl _⟩,RowsEq.rfl'⟩,
⟨⟨Nat.le_refl _⟩,RowsEq.rfl'⟩,
⟨⟨Nat.le_refl _⟩,RowsEq.rfl'⟩,trivial⟩,
fun x4 => fun h5 => ⟨fun g6 => have h6 := of_decide_eq_true g6; ⟨⟨(by omega),
(by omega)⟩,
(by omega),
fun h7 => ⟨⟨⟨trivial,trivial⟩,trivial⟩,
⟨rfl,
(by omega),
(by omega),
(by have := srcAt_len x1.src x4; omega)⟩,
⟨(by omega),
(by omega)⟩,
(x4 + (1 : Nat)),
(by omega),
(by omega),
⟨(by omega),
⟨rfl,
(by (try simp only [Nat.zero_add, Int.toNat_natCast] at *); have e := srcAt_yes (src := x1.src) (k := x4) ‹_›; (simp only [e, List.length_append, List.length_cons, List.length_nil]; done))⟩,rfl,
⟨rfl,rfl⟩,
⟨rfl,rfl⟩,
⟨rfl,rfl⟩,
⟨rfl,rfl⟩,trivial,
⟨rfl,rfl⟩,trivial⟩,
⟨⟨(by (try simp only [Nat.zero_add, Int.toNat_natCast] at *); have e := srcAt_yes (src := x1.src) (k := x4) ‹_›; (simp only [e, List.length_append, List.length_cons, List.length_nil]; omega))⟩,
(by (try simp only [Nat.zero_add, Int.toNat_natCast] at *); have e := srcAt_yes (src := x1.src) (k := x4) ‹_›; (rw [e]; exact srcs_rows))⟩,
⟨⟨rfl,rfl⟩,
⟨rfl,rfl⟩,
⟨rfl,rfl⟩,
⟨rfl,rfl⟩,
⟨rfl,rfl⟩,rfl,trivial⟩,
⟨⟨Nat.le_refl _⟩,RowsEq.rfl'⟩,
⟨⟨Nat.le_refl _⟩,RowsEq.rfl'⟩,
⟨⟨Nat.le_refl _⟩,RowsEq.rfl'⟩,
⟨⟨Nat.le_refl _⟩,RowsEq.rfl'⟩,
⟨⟨Nat.le_refl _⟩,RowsEq.rfl'⟩,trivial⟩,
fun h9 => ⟨⟨(by omega),
(by omega)⟩,
(x4 + (1 : Nat)),
(by omega),
(by omega),
⟨(by omega),
⟨rfl,
(by (try simp only [Nat.zero_add, Int.toNat_natCast] at *); have e := srcAt_no (src := x1.src) (k := x4) ‹_›; (rw [e]; done))⟩,rfl,
⟨rfl,rfl⟩,
⟨rfl,rfl⟩,
⟨rfl,rfl⟩,
⟨rfl,rfl⟩,trivial,
⟨rfl,rfl⟩,trivial⟩,
⟨⟨(by (try simp only [Nat.zero_add, Int.toNat_natCast] at *); have e := srcAt_no (src := x1.src) (k := x4) ‹_›; (rw [e]; exact Nat.le_refl _))⟩,
(by (try simp only [Nat.zero_add, Int.toNat_natCast] at *); have e := srcAt_no (src := x1.src) (k := x4) ‹_›; (rw [e]; exact RowsEq.rfl'))⟩,
⟨⟨rfl,rfl⟩,
⟨rfl,rfl⟩,
⟨rfl,rfl⟩,
⟨rfl,rfl⟩,
⟨rfl,rfl⟩,rfl,trivial⟩,
⟨⟨Nat.le_refl _⟩,RowsEq.rfl'⟩,
⟨⟨Nat.le_refl _⟩,RowsEq.rfl'⟩,
⟨⟨Nat.le_refl _⟩,RowsEq.rfl'⟩,
⟨⟨Nat.le_refl _⟩,RowsEq.rfl'⟩,
⟨⟨Nat.le_refl _⟩,RowsEq.rfl'⟩,trivial⟩⟩,
fun g11 => have h11 := of_decide_eq_false g11; ⟨⟨rfl,
(by rw [(srcAt_full (src := x1.src) (k := x4) ‹_› (by omega))])⟩,
⟨⟨(by rw [(srcAt_full (src := x1.src) (k := x4) ‹_› (by omega))]; exact Nat.le_refl _)⟩,
(by rw [(srcAt_full (src := x1.src) (k := x4) ‹_› (by omega))]; exact RowsEq.rfl')⟩,trivial⟩⟩⟩)
theorem srcs_good : Good Try.prog 13 srcsC /\ FnOk Try.prog 13 := good_of tok conN0 (fn := Try.f13) rfl (by decide +kernel) (fun _ => rfl) srcs_keeps
end Go.Sym