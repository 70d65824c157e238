import Derived.Test.YtpommejalaechaaJ6
import Derived.Test.YtpommejalaechaaXD
namespace Go.Sym
set_option linter.unusedVariables false
set_option linter.unusedSimpArgs false
open Go.Proofs
set_option maxHeartbeats 4000000
def selU : List SV -> Hp -> Bool := fun args G => match args with
 | [.p l _ _] => (match G l with
  | some (.one _ cs) => (match cs with
   | [_, _, _, _, _, .bt true] => true
   | _ => false)
  | _ => false)
 | _ => false
def stC (x y : MS) : List SV := [.p 100001 0 0, .sl 100002 0 x.g.es.length, .sl 100003 0 x.g.n, .sl 1 0 y.dist.length, .sl 2 0 y.so.length, .b y.od]
def stH (x y : MS) : List (Nat × Blk) := [(100000, .one .own (stC x y)), (1, .rows .own k1 y.dist.length (encL encI y.dist)), (2, .rows .own k1 y.so.length (encL encI y.so)), (100004, .dead), (100005, .dead)]
theorem mup_len {x : MS} (h : MSok x) : x.up.dist.length = x.g.n /\ x.up.so.length = x.g.n := ⟨h.dlen, by show (soF x x.dI).length = _; rw [soF_len]; exact h.dlen⟩
theorem mup_ok {x : MS} (h : MSok x) : MSok x.up := by
 have q := mup_len h
 have := h.n
 exact ⟨h.g, h.n, h.ts, h.tv, h.src, by rw [q.1]; exact h.n, by rw [q.2]; exact h.n, fun _ => ⟨rfl, rfl⟩⟩
def tmM (x : MS) (v : Int) : MS := if inN1 x v = true then x.up else x
def tmD (x : MS) (v : Int) : Int := if inN1 x v = true then x.dI.getD v.toNat default else 4611686018427387904
def tmS (x : MS) (v : Int) : Int := if inN1 x v = true then (soF x x.dI).getD v.toNat default else -1
def timC : CT where
 X := MNx
 pre := fun x => MSok x.m
 args := fun x => [.p 100000 0 0, .i .i64 x.v]
 g0 := fun x => msM x.m 100000 .own .bor .bor .own
 res := fun x => .tup [.i .i64 (tmD x.m x.v), .i .i64 (tmS x.m x.v)]
 g1 := fun x => stH x.m (tmM x.m x.v)
def cfgJ8 : Cfg := ⟨T, [], [(24, .one isNdC), (25, .one updC)], noInv, 40, {}⟩
theorem conJ8 : ConOk Try.prog cfgJ8 := ConL.ok (.cons (ConL.one isnd_good) (.cons (ConL.one upd_good) .nil))
theorem tm_no {x : MS} {v : Int} (h : (!inN1 x v) = true) : tmM x v = x /\ tmD x v = 4611686018427387904 /\ tmS x v = -1 := by
 have : inN1 x v = false := by simpa using h
 unfold tmM tmD tmS; rw [this]; exact ⟨rfl, rfl, rfl⟩
theorem tm_yes {x : MS} {v : Int} (h : (!inN1 x v) = false) : tmM x v = x.up /\ tmD x v = x.dI.getD v.toNat default /\ tmS x v = (soF x x.dI).getD v.toNat default := by
 have : inN1 x v = true := by simpa using h
 unfold tmM tmD tmS; rw [this]; exact ⟨rfl, rfl, rfl⟩
theorem tm_len {x : MS} (h : MSok x) {v : Int} (h2 : (!inN1 x v) = false) : (tmM x v).dist.length = x.g.n /\ (tmM x v).so.length = x.g.n := by rw [(tm_yes h2).1]; exact mup_len h
set_option maxRecDepth 100000 in
theorem tim_keeps : Keeps cfgJ8 Try.f15 timC noIv := Eq.mp (show ((∀ x1 : MNx, ((MSok x1.m)-> (∃ x3 : MNx, (True/\(((0=0 /\ 0=0)/\(x1.v = x3.v/\True))/\((((0=0 /\ 0=0)/\((0=0 /\ x1.m.g.es.length = x3.m.g.es.length)/\((0=0 /\ x1.m.g.n = x3.m.g.n)/\((0=0 /\ x1.m.dist.length = x3.m.dist.length)/\((0=0 /\ x1.m.so.length = x3.m.so.length)/\(x1.m.od = x3.m.od/\True))))))/\((RLe 1 1/\(RowsEq [.sl [.int .i64, .int .i64, .int .i64], .sl [.sl [.int .i64]], .sl [.sl [.int .i64]]] 1 (encG x1.m.g) (encG x3.m.g)))/\(((RLe x3.m.g.es.length x1.m.g.es.length)/\(RowsEq [.int .i64] x3.m.g.es.length (encL encI x1.m.ts) (encL encI x3.m.ts)))/\(((RLe x3.m.g.n x1.m.g.n)/\(RowsEq (Kd.bool :: []) x3.m.g.n (encL encBo x1.m.src) (encL encBo x3.m.src)))/\(((RLe x3.m.dist.length x1.m.dist.length)/\(RowsEq [.int .i64] x3.m.dist.length (encL encI x1.m.dist) (encL encI x3.m.dist)))/\(((RLe x3.m.so.length x1.m.so.length)/\(RowsEq [.int .i64] x3.m.so.length (encL encI x1.m.so) (encL encI x3.m.so)))/\True))))))/\((((!inN1 x3.m x3.v) = true)-> ((((4611686018427387904 : Int) = tmD x1.m x1.v)/\(((-1 : Int) = tmS x1.m x1.v)/\True))/\(((0=0 /\ 0=0)/\((0=0 /\ x1.m.g.es.length = x1.m.g.es.length)/\((0=0 /\ x1.m.g.n = x1.m.g.n)/\((0=0/\(x1.m.dist.length = (tmM x1.m x1.v).dist.length))/\((0=0/\(x1.m.so.length = (tmM x1.m x1.v).so.length))/\((x1.m.od = (tmM x1.m x1.v).od)/\True))))))/\(((RLe (tmM x1.m x1.v).dist.length x1.m.dist.length)/\(RowsEq [.int .i64] (tmM x1.m x1.v).dist.length (encL encI x1.m.dist) (encL encI (tmM x1.m x1.v).dist)))/\(((RLe (tmM x1.m x1.v).so.length x1.m.so.length)/\(RowsEq [.int .i64] (tmM x1.m x1.v).so.length (encL encI x1.m.so) (encL encI (tmM x1.m x1.v).so)))/\(True/\(True/\True)))))))/\(((!inN1 x3.m x3.v) = false)-> (∃ x6 : MS, ((MSok x6)/\(((0=0 /\ 0=0)/\True)/\((((0=0 /\ 0=0)/\((0=0 /\ x1.m.g.es.length = x6.g.es.length)/\((0=0 /\ x1.m.g.n = x6.g.n)/\((0=0 /\ x1.m.dist.length = x6.dist.length)/\((0=0 /\ x1.m.so.length = x6.so.length)/\(x1.m.od = x6.od/\True))))))/\((RLe 1 1/\(RowsEq [.sl [.int .i64, .int .i64, .int .i64], .sl [.sl [.int .i64]], .sl [.sl [.int .i64]]] 1 (encG x1.m.g) (encG x6.g)))/\(((RLe x6.g.es.length x1.m.g.es.length)/\(RowsEq [.int .i64] x6.g.es.length (encL encI x1.m.ts) (encL encI x6.ts)))/\(((RLe x6.g.n x1.m.g.n)/\(RowsEq (Kd.bool :: []) x6.g.n (encL encBo x1.m.src) (encL encBo x6.src)))/\(((RLe x6.dist.length x1.m.dist.length)/\(RowsEq [.int .i64] x6.dist.length (encL encI x1.m.dist) (encL encI x6.dist)))/\(((RLe x6.so.length x1.m.so.length)/\(RowsEq [.int .i64] x6.so.length (encL encI x1.m.so) (encL encI x6.so)))/\True))))))/\((((0 : Int) <= x1.v)/\(x1.v < (x6.g.n : Int)))/\((0 + Int.toNat x1.v < x6.g.n)/\((((0 : Int) <= x1.v)/\(x1.v < (x6.g.n : Int)))/\((0 + Int.toNat x1.v < x6.g.n)/\((((MS.dI x6).getD (0 + Int.toNat x1.v) default = tmD x1.m x1.v)/\(((soF x6 (MS.dI x6)).getD (0 + Int.toNat x1.v) default = tmS x1.m x1.v)/\True))/\(((0=0 /\ 0=0)/\((0=0 /\ x6.g.es.length = x1.m.g.es.length)/\((0=0 /\ x6.g.n = x1.m.g.n)/\((0=0/\(x6.g.n = (tmM x1.m x1.v).dist.length))/\((0=0/\(x6.g.n = (tmM x1.m x1.v).so.length))/\((false = (tmM x1.m x1.v).od)/\True))))))/\(((RLe (tmM x1.m x1.v).dist.length x6.g.n)/\(RowsEq [.int .i64] (tmM x1.m x1.v).dist.length (encL encI (MS.dI x6)) (encL encI (tmM x1.m x1.v).dist)))/\(((RLe (tmM x1.m x1.v).so.length x6.g.n)/\(RowsEq [.int .i64] (tmM x1.m x1.v).so.length (encL encI (soF x6 (MS.dI x6))) (encL encI (tmM x1.m x1.v).so)))/\(True/\(True/\True))))))))))))))))))))))) = (Keeps cfgJ8 Try.f15 timC noIv) by kernel_rfl) (fun x1 => fun h2 => ⟨(x1),trivial,
⟨⟨rfl,rfl⟩,rfl,trivial⟩,
⟨⟨⟨rfl,rfl⟩,
⟨rfl,rfl⟩,
⟨rfl,rfl⟩,
⟨rfl,rfl⟩,
⟨rfl,rfl⟩,rfl,trivial⟩,
⟨⟨Nat.le_refl _⟩,RowsEq.rfl'⟩,
⟨⟨Nat.le_refl _⟩,RowsEq.rfl'⟩,
⟨⟨Nat.le_refl _⟩,RowsEq.rfl'⟩,
⟨⟨Nat.le_refl _⟩,RowsEq.rfl'⟩,
⟨⟨Nat.le_refl _⟩,RowsEq.rfl'⟩,trivial⟩,
fun h4 => ⟨⟨((tm_no (x := x1.m) (v := x1.v) ‹_›).2.1.symm),
((tm_no (x := x1.m) (v := x1.v) ‹_›).2.2.symm),trivial⟩,
⟨⟨rfl,rfl⟩,
⟨rfl,rfl⟩,
⟨rfl,rfl⟩,
⟨rfl,
(by rw [(tm_no (x := x1.m) (v := x1.v) ‹_›).1])⟩,
⟨rfl,
(by rw [(tm_no (x := x1.m) (v := x1.v) ‹_›).1])⟩,
(by rw [(tm_no (x := x1.m) (v := x1.v) ‹_›).1]),trivial⟩,
⟨⟨(by rw [(tm_no (x := x1.m) (v := x1.v) ‹_›).1]; exact Nat.le_refl _)⟩,
(by rw [(tm_no (x := x1.m) (v := x1.v) ‹_›).1]; exact RowsEq.rfl')⟩,
⟨⟨(by rw [(tm_no (x := x1.m) (v := x1.v) ‹_›).1]; exact Nat.le_refl _)⟩,
(by rw [(tm_no (x := x1.m) (v := x1.v) ‹_›).1]; exact RowsEq.rfl')⟩,trivial,trivial,trivial⟩,
fun h5 => ⟨(MNx.m x1),
(by omega),
⟨⟨rfl,rfl⟩,trivial⟩,
⟨⟨⟨rfl,rfl⟩,
⟨rfl,rfl⟩,
⟨rfl,rfl⟩,
⟨rfl,rfl⟩,
⟨rfl,rfl⟩,rfl,trivial⟩,
⟨⟨Nat.le_refl _⟩,RowsEq.rfl'⟩,
⟨⟨Nat.le_refl _⟩,RowsEq.rfl'⟩,
⟨⟨Nat.le_refl _⟩,RowsEq.rfl'⟩,
⟨⟨Nat.le_refl _⟩,RowsEq.rfl'⟩,
⟨⟨Nat.le_refl _⟩,RowsEq.rfl'⟩,trivial⟩,
⟨(by have q := inN1_yes ‹_›; omega),
(by have q := inN1_yes ‹_›; omega)⟩,
(by have q := inN1_yes ‹_›; omega),
⟨(by have q := inN1_yes ‹_›; omega),
(by have q := inN1_yes ‹_›; omega)⟩,
(by have q := inN1_yes ‹_›; omega),
⟨(by (try simp only [Nat.zero_add] at *); have e := tm_yes (x := x1.m) (v := x1.v) ‹_›; exact e.2.1.symm),
(by (try simp only [Nat.zero_add] at *); have e := tm_yes (x := x1.m) (v := x1.v) ‹_›; exact e.2.2.symm),trivial⟩,
⟨⟨rfl,rfl⟩,
⟨rfl,rfl⟩,
⟨rfl,rfl⟩,
⟨rfl,
(by exact (tm_len h2 ‹_›).1.symm)⟩,
⟨rfl,
(by exact (tm_len h2 ‹_›).2.symm)⟩,
(by rw [(tm_yes (x := x1.m) (v := x1.v) ‹_›).1]; rfl),trivial⟩,
⟨⟨(by exact Nat.le_of_eq (tm_len h2 ‹_›).1)⟩,
(by rw [(tm_yes (x := x1.m) (v := x1.v) ‹_›).1]; exact RowsEq.rfl')⟩,
⟨⟨(by exact Nat.le_of_eq (tm_len h2 ‹_›).2)⟩,
(by rw [(tm_yes (x := x1.m) (v := x1.v) ‹_›).1]; exact RowsEq.rfl')⟩,trivial,trivial,trivial⟩⟩)
theorem tim_good : Good Try.prog 15 timC /\ FnOk Try.prog 15 := good_of tok conJ8 (fn := Try.f15) rfl (by decide +kernel) (fun _ => rfl) tim_keeps
end Go.Sym