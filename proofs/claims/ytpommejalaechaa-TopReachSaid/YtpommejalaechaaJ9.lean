import Derived.Test.YtpommejalaechaaJ7
import Derived.Test.YtpommejalaechaaXD
namespace Go.Sym
set_option linter.unusedVariables false
set_option linter.unusedSimpArgs false
open Go.Proofs
set_option maxHeartbeats 4000000
def wiAt (d : List Int) (t : Int) (k : Nat) : List Int := ((List.range k).filter fun i => decide (d.getD i default <= t /\ d.getD i default ≠ 4611686018427387904)).map fun (i : Nat) => (i : Int)
def wiL (d : List Int) (t : Int) : List Int := wiAt d t d.length
theorem wiAt_yes {d : List Int} {t : Int} {k : Nat} (h : d.getD k default <= t) (h2 : d.getD k default ≠ 4611686018427387904) : wiAt d t (k + 1) = wiAt d t k ++ [(k : Int)] := by
 unfold wiAt; rw [List.range_succ, List.filter_append, List.filter_cons, if_pos (decide_eq_true ⟨h, h2⟩), List.map_append]; rfl
theorem wiAt_no {d : List Int} {t : Int} {k : Nat} (h : ¬ (d.getD k default <= t /\ d.getD k default ≠ 4611686018427387904)) : wiAt d t (k + 1) = wiAt d t k := by
 unfold wiAt; rw [List.range_succ, List.filter_append, List.filter_cons, if_neg (by rw [decide_eq_false h]; decide)]; simp
theorem wiAt_len (d : List Int) (t : Int) (k : Nat) : (wiAt d t k).length <= k := by
 unfold wiAt; rw [List.length_map]
 have := List.length_filter_le (fun i => decide (d.getD i default <= t /\ d.getD i default ≠ 4611686018427387904)) (List.range k); simpa using this
theorem wi_full {x : MS} (h : MSok x) {t : Int} {k : Nat} (h1 : k <= x.g.n) (h2 : ¬ (k : Int) < x.g.n) : wiAt x.dI t k = wiL x.dI t := by unfold wiL; rw [h.dlen, show k = x.g.n by omega]
def wiC : CT where
 X := MNx
 pre := fun x => MSok x.m
 args := fun x => [.p 100000 0 0, .i .i64 x.v]
 g0 := fun x => msM x.m 100000 .own .bor .bor .own
 res := fun x => setV (ofW (wiL x.m.dI x.v) (wiL x.m.dI x.v).length) 3
 g1 := fun x => upH x.m ++ [(100004, .dead), (100005, .dead)] ++ setH (ofW (wiL x.m.dI x.v) (wiL x.m.dI x.v).length) .own 3
def wiI (x : MNx) (id : Nat) : Option Inv := match id with
 | 0 => some { X := Nat, ok := fun k => k <= x.m.g.n, fr := fun k => [(15, .i .i64 k), (5, .sl 91 0 (wiAt x.m.dI x.v k).length)], hp := fun k => [(91, .rows .own k1 (wiAt x.m.dI x.v k).length (encL encI (wiAt x.m.dI x.v k))), (100004, .dead), (100005, .dead)], me := fun k => x.m.g.n - k }
 | _ => none
def cfgJ9 : Cfg := ⟨T, [], [(25, .one updC), (28, .one ofC)], noInv, 40, {}⟩
theorem conJ9 : ConOk Try.prog cfgJ9 := ConL.ok (.cons (ConL.one upd_good) (.cons (ConL.one of_good) .nil))
set_option maxRecDepth 100000 in
theorem wi_keeps : Keeps cfgJ9 Try.f14 wiC wiI := Eq.mp (show ((∀ x1 : MNx, ((MSok x1.m)-> (∃ x3 : MS, ((MSok x3)/\(((0=0 /\ 0=0)/\True)/\((((0=0 /\ 0=0)/\((0=0 /\ x1.m.g.es.length = x3.g.es.length)/\((0=0 /\ x1.m.g.n = x3.g.n)/\((0=0 /\ x1.m.dist.length = x3.dist.length)/\((0=0 /\ x1.m.so.length = x3.so.length)/\(x1.m.od = x3.od/\True))))))/\((RLe 1 1/\(RowsEq [.sl [.int .i64, .int .i64, .int .i64], .sl [.sl [.int .i64]], .sl [.sl [.int .i64]]] 1 (encG x1.m.g) (encG x3.g)))/\(((RLe x3.g.es.length x1.m.g.es.length)/\(RowsEq [.int .i64] x3.g.es.length (encL encI x1.m.ts) (encL encI x3.ts)))/\(((RLe x3.g.n x1.m.g.n)/\(RowsEq (Kd.bool :: []) x3.g.n (encL encBo x1.m.src) (encL encBo x3.src)))/\(((RLe x3.dist.length x1.m.dist.length)/\(RowsEq [.int .i64] x3.dist.length (encL encI x1.m.dist) (encL encI x3.dist)))/\(((RLe x3.so.length x1.m.so.length)/\(RowsEq [.int .i64] x3.so.length (encL encI x1.m.so) (encL encI x3.so)))/\True))))))/\(∃ x4 : Nat, (((x4 <= x1.m.g.n)/\(((0 = (x4 : Int))/\((True/\(0=0/\((wiAt (MS.dI x1.m) x1.v x4).length = (0 : Nat))))/\(((x3.g.n : Int) = (x3.g.n : Int))/\((0=0 /\ x3.g.n = x3.g.n)/\((0=0/\((3 : Nat) = (3 : Nat)))/\((0=0 /\ 0=0)/\((0=0 /\ 0=0)/\(True/\((0=0 /\ 0=0)/\((0=0 /\ 0=0)/\((0=0 /\ 0=0)/\(x1.v = x1.v/\True))))))))))))/\(((wiAt (MS.dI x1.m) x1.v x4).length = (0 : Nat))/\(True/\(True/\(((0=0 /\ 0=0)/\((0=0 /\ x3.g.es.length = x3.g.es.length)/\((0=0 /\ x3.g.n = x3.g.n)/\((0=0 /\ x3.g.n = x3.g.n)/\((0=0 /\ x3.g.n = x3.g.n)/\(false = false/\True))))))/\(((RLe x3.g.n x3.g.n)/\(RowsEq [.int .i64] x3.g.n (encL encI (MS.dI x3)) (encL encI (MS.dI x3))))/\(((RLe x3.g.n x3.g.n)/\(RowsEq [.int .i64] x3.g.n (encL encI (soF x3 (MS.dI x3))) (encL encI (soF x3 (MS.dI x3)))))/\((True/\True)/\((RLe 1 1/\(RowsEq [.sl [.int .i64, .int .i64, .int .i64], .sl [.sl [.int .i64]], .sl [.sl [.int .i64]]] 1 (encG x1.m.g) (encG x1.m.g)))/\(((RLe x1.m.g.es.length x1.m.g.es.length)/\(RowsEq [.int .i64] x1.m.g.es.length (encL encI x1.m.ts) (encL encI x1.m.ts)))/\(((RLe x1.m.g.n x1.m.g.n)/\(RowsEq (Kd.bool :: []) x1.m.g.n (encL encBo x1.m.src) (encL encBo x1.m.src)))/\True))))))))))))/\(∀ x5 : Nat, ((x5 <= x1.m.g.n)-> (((decide ((x5 : Int) < (x3.g.n : Int)) = true)-> ((((0 : Int) <= (x5 : Int))/\((x5 : Int) < (x3.g.n : Int)))/\((0 + Int.toNat (x5 : Int) < x3.g.n)/\(((decide ((MS.dI x3).getD (0 + Int.toNat (x5 : Int)) default <= x1.v) = true)-> (((decide ((MS.dI x3).getD (0 + Int.toNat (x5 : Int)) default ≠ (4611686018427387904 : Int)) = true)-> (((True/\True)/\True)/\((0=0/\(((wiAt (MS.dI x1.m) x1.v x5).length <= (wiAt (MS.dI x1.m) x1.v x5).length)/\(((1 : Nat) <= (1 : Nat))/\((wiAt (MS.dI x1.m) x1.v x5).length + (1 : Nat) <= (1073741824 : Nat)))))/\((((-9223372036854775808 : Int) <= (x5 : Int) + 1)/\((x5 : Int) + 1 <= (9223372036854775807 : Int)))/\(∃ x10 : Nat, ((x1.m.g.n - x10 < x1.m.g.n - x5)/\((x10 <= x1.m.g.n)/\((((x5 : Int) + 1 = (x10 : Int))/\((0=0/\((wiAt (MS.dI x1.m) x1.v x5).length + (1 : Nat) = (wiAt (MS.dI x1.m) x1.v x10).length))/\(((x3.g.n : Int) = (x3.g.n : Int))/\((0=0 /\ x3.g.n = x3.g.n)/\((0=0/\((3 : Nat) = (3 : Nat)))/\((0=0 /\ 0=0)/\((0=0 /\ 0=0)/\(True/\((0=0 /\ 0=0)/\((0=0 /\ 0=0)/\((0=0 /\ 0=0)/\(x1.v = x1.v/\True))))))))))))/\(((RLe (wiAt (MS.dI x1.m) x1.v x10).length ((wiAt (MS.dI x1.m) x1.v x5).length + (1 : Nat)))/\(RowsEq [.int .i64] (wiAt (MS.dI x1.m) x1.v x10).length (appRows (wiAt (MS.dI x1.m) x1.v x5).length (encL encI (wiAt (MS.dI x1.m) x1.v x5)) 0 (litRows ((D.i (x5 : Int) :: @List.nil D) :: @List.nil (List D)))) (encL encI (wiAt (MS.dI x1.m) x1.v x10))))/\(True/\(True/\(((0=0 /\ 0=0)/\((0=0 /\ x3.g.es.length = x3.g.es.length)/\((0=0 /\ x3.g.n = x3.g.n)/\((0=0 /\ x3.g.n = x3.g.n)/\((0=0 /\ x3.g.n = x3.g.n)/\(false = false/\True))))))/\(((RLe x3.g.n x3.g.n)/\(RowsEq [.int .i64] x3.g.n (encL encI (MS.dI x3)) (encL encI (MS.dI x3))))/\(((RLe x3.g.n x3.g.n)/\(RowsEq [.int .i64] x3.g.n (encL encI (soF x3 (MS.dI x3))) (encL encI (soF x3 (MS.dI x3)))))/\((True/\True)/\((RLe 1 1/\(RowsEq [.sl [.int .i64, .int .i64, .int .i64], .sl [.sl [.int .i64]], .sl [.sl [.int .i64]]] 1 (encG x1.m.g) (encG x1.m.g)))/\(((RLe x1.m.g.es.length x1.m.g.es.length)/\(RowsEq [.int .i64] x1.m.g.es.length (encL encI x1.m.ts) (encL encI x1.m.ts)))/\(((RLe x1.m.g.n x1.m.g.n)/\(RowsEq (Kd.bool :: []) x1.m.g.n (encL encBo x1.m.src) (encL encBo x1.m.src)))/\True))))))))))))))))))/\((decide ((MS.dI x3).getD (0 + Int.toNat (x5 : Int)) default ≠ (4611686018427387904 : Int)) = false)-> ((((-9223372036854775808 : Int) <= (x5 : Int) + 1)/\((x5 : Int) + 1 <= (9223372036854775807 : Int)))/\(∃ x12 : Nat, ((x1.m.g.n - x12 < x1.m.g.n - x5)/\((x12 <= x1.m.g.n)/\((((x5 : Int) + 1 = (x12 : Int))/\((0=0/\((wiAt (MS.dI x1.m) x1.v x5).length = (wiAt (MS.dI x1.m) x1.v x12).length))/\(((x3.g.n : Int) = (x3.g.n : Int))/\((0=0 /\ x3.g.n = x3.g.n)/\((0=0/\((3 : Nat) = (3 : Nat)))/\((0=0 /\ 0=0)/\((0=0 /\ 0=0)/\(True/\((0=0 /\ 0=0)/\((0=0 /\ 0=0)/\((0=0 /\ 0=0)/\(x1.v = x1.v/\True))))))))))))/\(((RLe (wiAt (MS.dI x1.m) x1.v x12).length (wiAt (MS.dI x1.m) x1.v x5).length)/\(RowsEq [.int .i64] (wiAt (MS.dI x1.m) x1.v x12).length (encL encI (wiAt (MS.dI x1.m) x1.v x5)) (encL encI (wiAt (MS.dI x1.m) x1.v x12))))/\(True/\(True/\(((0=0 /\ 0=0)/\((0=0 /\ x3.g.es.length = x3.g.es.length)/\((0=0 /\ x3.g.n = x3.g.n)/\((0=0 /\ x3.g.n = x3.g.n)/\((0=0 /\ x3.g.n = x3.g.n)/\(false = false/\True))))))/\(((RLe x3.g.n x3.g.n)/\(RowsEq [.int .i64] x3.g.n (encL encI (MS.dI x3)) (encL encI (MS.dI x3))))/\(((RLe x3.g.n x3.g.n)/\(RowsEq [.int .i64] x3.g.n (encL encI (soF x3 (MS.dI x3))) (encL encI (soF x3 (MS.dI x3)))))/\((True/\True)/\((RLe 1 1/\(RowsEq [.sl [.int .i64, .int .i64, .int .i64], .sl [.sl [.int .i64]], .sl [.sl [.int .i64]]] 1 (encG x1.m.g) (encG x1.m.g)))/\(((RLe x1.m.g.es.length x1.m.g.es.length)/\(RowsEq [.int .i64] x1.m.g.es.length (encL encI x1.m.ts) (encL encI x1.m.ts)))/\(((RLe x1.m.g.n x1.m.g.n)/\(RowsEq (Kd.bool :: []) x1.m.g.n (encL encBo x1.m.src) (encL encBo x1.m.src)))/\True))))))))))))))))))/\((decide ((MS.dI x3).getD (0 + Int.toNat (x5 : Int)) default <= x1.v) = false)-> ((((-9223372036854775808 : Int) <= (x5 : Int) + 1)/\((x5 : Int) + 1 <= (9223372036854775807 : Int)))/\(∃ x14 : Nat, ((x1.m.g.n - x14 < x1.m.g.n - x5)/\((x14 <= x1.m.g.n)/\((((x5 : Int) + 1 = (x14 : Int))/\((0=0/\((wiAt (MS.dI x1.m) x1.v x5).length = (wiAt (MS.dI x1.m) x1.v x14).length))/\(((x3.g.n : Int) = (x3.g.n : Int))/\((0=0 /\ x3.g.n = x3.g.n)/\((0=0/\((3 : Nat) = (3 : Nat)))/\((0=0 /\ 0=0)/\((0=0 /\ 0=0)/\(True/\((0=0 /\ 0=0)/\((0=0 /\ 0=0)/\((0=0 /\ 0=0)/\(x1.v = x1.v/\True))))))))))))/\(((RLe (wiAt (MS.dI x1.m) x1.v x14).length (wiAt (MS.dI x1.m) x1.v x5).length)/\(RowsEq [.int .i64] (wiAt (MS.dI x1.m) x1.v x14).length (encL encI (wiAt (MS.dI x1.m) x1.v x5)) (encL encI (wiAt (MS.dI x1.m) x1.v x14))))/\(True/\(True/\(((0=0 /\ 0=0)/\((0=0 /\ x3.g.es.length = x3.g.es.length)/\((0=0 /\ x3.g.n = x3.g.n)/\((0=0 /\ x3.g.n = x3.g.n)/\((0=0 /\ x3.g.n = x3.g.n)/\(false = false/\True))))))/\(((RLe x3.g.n x3.g.n)/\(RowsEq [.int .i64] x3.g.n (encL encI (MS.dI x3)) (encL encI (MS.dI x3))))/\(((RLe x3.g.n x3.g.n)/\(RowsEq [.int .i64] x3.g.n (encL encI (soF x3 (MS.dI x3))) (encL encI (soF x3 (MS.dI x3)))))/\((True/\True)/\((RLe 1 1/\(RowsEq [.sl [.int .i64, .int .i64, .int .i64], .sl [.sl [.int .i64]], .sl [.sl [.int .i64]]] 1 (encG x1.m.g) (encG x1.m.g)))/\(((RLe x1.m.g.es.length x1.m.g.es.length)/\(RowsEq [.int .i64] x1.m.g.es.length (encL encI x1.m.ts) (encL encI x1.m.ts)))/\(((RLe x1.m.g.n x1.m.g.n)/\(RowsEq (Kd.bool :: []) x1.m.g.n (encL encBo x1.m.src) (encL encBo x1.m.src)))/\True))))))))))))))))))))/\((decide ((x5 : Int) < (x3.g.n : Int)) = false)-> (∃ x16 : List Int, ((x16.length <= (1048576 : Nat))/\(((0=0/\((wiAt (MS.dI x1.m) x1.v x5).length = x16.length))/\True)/\((((RLe x16.length (wiAt (MS.dI x1.m) x1.v x5).length)/\(RowsEq [.int .i64] x16.length (encL encI (wiAt (MS.dI x1.m) x1.v x5)) (encL encI x16)))/\True)/\(((szW (ofW x16 x16.length) = szW (ofW (wiL (MS.dI x1.m) x1.v) (wiL (MS.dI x1.m) x1.v).length))/\True)/\(((0=0 /\ 0=0)/\((0=0 /\ x3.g.es.length = x1.m.g.es.length)/\((0=0 /\ x3.g.n = x1.m.g.n)/\((0=0 /\ x3.g.n = x1.m.g.n)/\((0=0 /\ x3.g.n = x1.m.g.n)/\(false = false/\True))))))/\(((RLe x1.m.g.n x3.g.n)/\(RowsEq [.int .i64] x1.m.g.n (encL encI (MS.dI x3)) (encL encI (MS.dI x1.m))))/\(((RLe x1.m.g.n x3.g.n)/\(RowsEq [.int .i64] x1.m.g.n (encL encI (soF x3 (MS.dI x3))) (encL encI (soF x1.m (MS.dI x1.m)))))/\(True/\(True/\(((RLe (szW (ofW (wiL (MS.dI x1.m) x1.v) (wiL (MS.dI x1.m) x1.v).length)) (szW (ofW x16 x16.length)))/\(RowsEq [.int .u64] (szW (ofW (wiL (MS.dI x1.m) x1.v) (wiL (MS.dI x1.m) x1.v).length)) (encL encW (ofW x16 x16.length)) (encL encW (ofW (wiL (MS.dI x1.m) x1.v) (wiL (MS.dI x1.m) x1.v).length))))/\True)))))))))))))))))))))))) = (Keeps cfgJ9 Try.f14 wiC wiI) by kernel_rfl) (fun x1 => fun h2 => ⟨(MNx.m x1),
(by omega),
⟨⟨rfl,rfl⟩,trivial⟩,
⟨⟨⟨rfl,rfl⟩,
⟨rfl,rfl⟩,
⟨rfl,rfl⟩,
⟨rfl,rfl⟩,
⟨rfl,rfl⟩,rfl,trivial⟩,
⟨⟨Nat.le_refl _⟩,RowsEq.rfl'⟩,
⟨⟨Nat.le_refl _⟩,RowsEq.rfl'⟩,
⟨⟨Nat.le_refl _⟩,RowsEq.rfl'⟩,
⟨⟨Nat.le_refl _⟩,RowsEq.rfl'⟩,
⟨⟨Nat.le_refl _⟩,RowsEq.rfl'⟩,trivial⟩,
((0 : Nat)),
⟨(by omega),
⟨(by omega),
⟨trivial,rfl,rfl⟩,rfl,
⟨rfl,rfl⟩,
⟨rfl,rfl⟩,
⟨rfl,rfl⟩,
⟨rfl,rfl⟩,trivial,
⟨rfl,rfl⟩,
⟨rfl,rfl⟩,
⟨rfl,rfl⟩,rfl,trivial⟩,rfl,trivial,trivial,
⟨⟨rfl,rfl⟩,
⟨rfl,rfl⟩,
⟨rfl,rfl⟩,
⟨rfl,rfl⟩,
⟨rfl,rfl⟩,rfl,trivial⟩,
⟨⟨Nat.le_refl _⟩,RowsEq.rfl'⟩,
⟨⟨Nat.le_refl _⟩,RowsEq.rfl'⟩,
⟨trivial,trivial⟩,
⟨⟨Nat.le_refl _⟩,RowsEq.rfl'⟩,
⟨⟨Nat.le_refl _⟩,RowsEq.rfl'⟩,
⟨⟨Nat.le_refl _⟩,RowsEq.rfl'⟩,trivial⟩,
fun x5 => fun h6 => ⟨fun g7 => have h7 := of_decide_eq_true g7; ⟨⟨(by omega),
(by omega)⟩,
(by omega),
fun g8 => have h8 := of_decide_eq_true g8; ⟨fun g9 => have h9 := of_decide_eq_true g9; ⟨⟨⟨trivial,trivial⟩,trivial⟩,
⟨rfl,
(by omega),
(by omega),
(by have q : x1.m.g.n <= 12 := h2.n; have := wiAt_len x1.m.dI x1.v x5; omega)⟩,
⟨(by omega),
(by have q : x1.m.g.n <= 12 := h2.n; have := wiAt_len x1.m.dI x1.v x5; omega)⟩,
(x5 + (1 : Nat)),
(by omega),
(by omega),
⟨(by omega),
⟨rfl,
(by (try simp only [Nat.zero_add, Int.toNat_natCast] at *); have e := wiAt_yes (d := x1.m.dI) (t := x1.v) (k := x5) h8 h9; (simp only [e, List.length_append, List.length_cons, List.length_nil]; done))⟩,rfl,
⟨rfl,rfl⟩,
⟨rfl,rfl⟩,
⟨rfl,rfl⟩,
⟨rfl,rfl⟩,trivial,
⟨rfl,rfl⟩,
⟨rfl,rfl⟩,
⟨rfl,rfl⟩,rfl,trivial⟩,
⟨⟨(by (try simp only [Nat.zero_add, Int.toNat_natCast] at *); have e := wiAt_yes (d := x1.m.dI) (t := x1.v) (k := x5) h8 h9; (simp only [e, List.length_append, List.length_cons, List.length_nil]; omega))⟩,
(by (try simp only [Nat.zero_add, Int.toNat_natCast] at *); have e := wiAt_yes (d := x1.m.dI) (t := x1.v) (k := x5) h8 h9; (rw [e]; exact srcs_rows))⟩,trivial,trivial,
⟨⟨rfl,rfl⟩,
⟨rfl,rfl⟩,
⟨rfl,rfl⟩,
⟨rfl,rfl⟩,
⟨rfl,rfl⟩,rfl,trivial⟩,
⟨⟨Nat.le_refl _⟩,RowsEq.rfl'⟩,
⟨⟨Nat.le_refl _⟩,RowsEq.rfl'⟩,
⟨trivial,trivial⟩,
⟨⟨Nat.le_refl _⟩,RowsEq.rfl'⟩,
⟨⟨Nat.le_refl _⟩,RowsEq.rfl'⟩,
⟨⟨Nat.le_refl _⟩,RowsEq.rfl'⟩,trivial⟩,
fun g11 => have h11 := of_decide_eq_false g11; ⟨⟨(by omega),
(by have q : x1.m.g.n <= 12 := h2.n; have := wiAt_len x1.m.dI x1.v x5; omega)⟩,
(x5 + (1 : Nat)),
(by omega),
(by omega),
⟨(by omega),
⟨rfl,
(by (try simp only [Nat.zero_add, Int.toNat_natCast] at *); have e := wiAt_no (d := x1.m.dI) (t := x1.v) (k := x5) (fun q => h11 q.2); (rw [e]; done))⟩,rfl,
⟨rfl,rfl⟩,
⟨rfl,rfl⟩,
⟨rfl,rfl⟩,
⟨rfl,rfl⟩,trivial,
⟨rfl,rfl⟩,
⟨rfl,rfl⟩,
⟨rfl,rfl⟩,rfl,trivial⟩,
⟨⟨(by (try simp only [Nat.zero_add, Int.toNat_natCast] at *); have e := wiAt_no (d := x1.m.dI) (t := x1.v) (k := x5) (fun q => h11 q.2); (rw [e]; exact Nat.le_refl _))⟩,
(by (try simp only [Nat.zero_add, Int.toNat_natCast] at *); have e := wiAt_no (d := x1.m.dI) (t := x1.v) (k := x5) (fun q => h11 q.2); (rw [e]; exact RowsEq.rfl'))⟩,trivial,trivial,
⟨⟨rfl,rfl⟩,
⟨rfl,rfl⟩,
⟨rfl,rfl⟩,
⟨rfl,rfl⟩,
⟨rfl,rfl⟩,rfl,trivial⟩,
⟨⟨Nat.le_refl _⟩,RowsEq.rfl'⟩,
⟨⟨Nat.le_refl _⟩,RowsEq.rfl'⟩,
⟨trivial,trivial⟩,
⟨⟨Nat.le_refl _⟩,RowsEq.rfl'⟩,
⟨⟨Nat.le_refl _⟩,RowsEq.rfl'⟩,
⟨⟨Nat.le_refl _⟩,RowsEq.rfl'⟩,trivial⟩⟩,
fun g13 => have h13 := of_decide_eq_false g13; ⟨⟨(by omega),
(by have q : x1.m.g.n <= 12 := h2.n; have := wiAt_len x1.m.dI x1.v x5; omega)⟩,
(x5 + (1 : Nat)),
(by omega),
(by omega),
⟨(by omega),
⟨rfl,
(by (try simp only [Nat.zero_add, Int.toNat_natCast] at *); have e := wiAt_no (d := x1.m.dI) (t := x1.v) (k := x5) (fun q => h13 q.1); (rw [e]; done))⟩,rfl,
⟨rfl,rfl⟩,
⟨rfl,rfl⟩,
⟨rfl,rfl⟩,
⟨rfl,rfl⟩,trivial,
⟨rfl,rfl⟩,
⟨rfl,rfl⟩,
⟨rfl,rfl⟩,rfl,trivial⟩,
⟨⟨(by (try simp only [Nat.zero_add, Int.toNat_natCast] at *); have e := wiAt_no (d := x1.m.dI) (t := x1.v) (k := x5) (fun q => h13 q.1); (rw [e]; exact Nat.le_refl _))⟩,
(by (try simp only [Nat.zero_add, Int.toNat_natCast] at *); have e := wiAt_no (d := x1.m.dI) (t := x1.v) (k := x5) (fun q => h13 q.1); (rw [e]; exact RowsEq.rfl'))⟩,trivial,trivial,
⟨⟨rfl,rfl⟩,
⟨rfl,rfl⟩,
⟨rfl,rfl⟩,
⟨rfl,rfl⟩,
⟨rfl,rfl⟩,rfl,trivial⟩,
⟨⟨Nat.le_refl _⟩,RowsEq.rfl'⟩,
⟨⟨Nat.le_refl _⟩,RowsEq.rfl'⟩,
⟨trivial,trivial⟩,
⟨⟨Nat.le_refl _⟩,RowsEq.rfl'⟩,
⟨⟨Nat.le_refl _⟩,RowsEq.rfl'⟩,
⟨⟨Nat.le_refl _⟩,RowsEq.rfl'⟩,trivial⟩⟩,
fun g15 => have h15 := of_decide_eq_false g15; ⟨(wiAt (MS.dI (MNx.m x1)) (MNx.v x1) x5),
(by have q : x1.m.g.n <= 12 := h2.n; have := wiAt_len x1.m.dI x1.v x5; omega),
⟨⟨rfl,rfl⟩,trivial⟩,
⟨⟨⟨Nat.le_refl _⟩,RowsEq.rfl'⟩,trivial⟩,
⟨(by rw [wi_full h2 h6 h15]; first | done | exact Nat.le_refl _ | exact RowsEq.rfl'),trivial⟩,
⟨⟨rfl,rfl⟩,
⟨rfl,rfl⟩,
⟨rfl,rfl⟩,
⟨rfl,rfl⟩,
⟨rfl,rfl⟩,rfl,trivial⟩,
⟨⟨Nat.le_refl _⟩,RowsEq.rfl'⟩,
⟨⟨Nat.le_refl _⟩,RowsEq.rfl'⟩,trivial,trivial,
⟨⟨(by rw [wi_full h2 h6 h15]; first | done | exact Nat.le_refl _ | exact RowsEq.rfl')⟩,
(by rw [wi_full h2 h6 h15]; first | done | exact Nat.le_refl _ | exact RowsEq.rfl')⟩,trivial⟩⟩⟩)
theorem wi_good : Good Try.prog 14 wiC /\ FnOk Try.prog 14 := good_of tok conJ9 (fn := Try.f14) rfl (by decide +kernel) (fun _ => rfl) wi_keeps
def faSt (s : Int × Int) (d : List Int) (i : Nat) : Int × Int := if s.1 < d.getD i default then (d.getD i default, (i : Int)) else s
def faAt (d : List Int) (k : Nat) : Int × Int := (List.range k).foldl (fun s i => faSt s d i) (-1, -1)
def faL (d : List Int) : Int × Int := faAt d d.length
theorem faAt_yes {d : List Int} {k : Nat} (h : (faAt d k).1 < d.getD k default) : faAt d (k + 1) = (d.getD k default, (k : Int)) := by
 unfold faAt at h ⊢; rw [List.range_succ, List.foldl_append]; exact if_pos h
theorem faAt_no {d : List Int} {k : Nat} (h : ¬ (faAt d k).1 < d.getD k default) : faAt d (k + 1) = faAt d k := by
 unfold faAt at h ⊢; rw [List.range_succ, List.foldl_append]; exact if_neg h
theorem fa_full {x : MS} (h : MSok x) {k : Nat} (h1 : k <= x.g.n) (h2 : ¬ (k : Int) < x.g.n) : faAt x.dI k = faL x.dI := by unfold faL; rw [h.dlen, show k = x.g.n by omega]
def farC : CT where
 X := MS
 pre := MSok
 args := fun x => [.p 100000 0 0]
 g0 := fun x => msM x 100000 .own .bor .bor .own
 res := fun x => .tup [.i .i64 (faL x.dI).1, .i .i64 (faL x.dI).2]
 g1 := fun x => upH x ++ [(100004, .dead), (100005, .dead)]
def farI (x : MS) (id : Nat) : Option Inv := match id with
 | 0 => some { X := Nat, ok := fun k => k <= x.g.n, fr := fun k => [(15, .i .i64 k), (4, .i .i64 (faAt x.dI k).1), (5, .i .i64 (faAt x.dI k).2)], hp := fun _ => [(100004, .dead), (100005, .dead)], me := fun k => x.g.n - k }
 | _ => none
set_option maxRecDepth 100000 in
theorem far_keeps : Keeps cfgJ9 Try.f17 farC farI := Eq.mp (show ((∀ x1 : MS, ((MSok x1)-> (∃ x3 : MS, ((MSok x3)/\(((0=0 /\ 0=0)/\True)/\((((0=0 /\ 0=0)/\((0=0 /\ x1.g.es.length = x3.g.es.length)/\((0=0 /\ x1.g.n = x3.g.n)/\((0=0 /\ x1.dist.length = x3.dist.length)/\((0=0 /\ x1.so.length = x3.so.length)/\(x1.od = x3.od/\True))))))/\((RLe 1 1/\(RowsEq [.sl [.int .i64, .int .i64, .int .i64], .sl [.sl [.int .i64]], .sl [.sl [.int .i64]]] 1 (encG x1.g) (encG x3.g)))/\(((RLe x3.g.es.length x1.g.es.length)/\(RowsEq [.int .i64] x3.g.es.length (encL encI x1.ts) (encL encI x3.ts)))/\(((RLe x3.g.n x1.g.n)/\(RowsEq (Kd.bool :: []) x3.g.n (encL encBo x1.src) (encL encBo x3.src)))/\(((RLe x3.dist.length x1.dist.length)/\(RowsEq [.int .i64] x3.dist.length (encL encI x1.dist) (encL encI x3.dist)))/\(((RLe x3.so.length x1.so.length)/\(RowsEq [.int .i64] x3.so.length (encL encI x1.so) (encL encI x3.so)))/\True))))))/\(∃ x4 : Nat, (((x4 <= x1.g.n)/\(((0 = (x4 : Int))/\(((-1 : Int) = Prod.fst (faAt (MS.dI x1) x4))/\(((-1 : Int) = Prod.snd (faAt (MS.dI x1) x4))/\(((x3.g.n : Int) = (x3.g.n : Int))/\((0=0 /\ x3.g.n = x3.g.n)/\((0=0/\((3 : Nat) = (3 : Nat)))/\((0=0 /\ 0=0)/\((0=0 /\ 0=0)/\(True/\((0=0 /\ 0=0)/\(((0 : Int) = 0)/\(((0 : Int) = 0)/\((0=0 /\ 0=0)/\True)))))))))))))/\(True/\(True/\(((0=0 /\ 0=0)/\((0=0 /\ x3.g.es.length = x3.g.es.length)/\((0=0 /\ x3.g.n = x3.g.n)/\((0=0 /\ x3.g.n = x3.g.n)/\((0=0 /\ x3.g.n = x3.g.n)/\(false = false/\True))))))/\(((RLe x3.g.n x3.g.n)/\(RowsEq [.int .i64] x3.g.n (encL encI (MS.dI x3)) (encL encI (MS.dI x3))))/\(((RLe x3.g.n x3.g.n)/\(RowsEq [.int .i64] x3.g.n (encL encI (soF x3 (MS.dI x3))) (encL encI (soF x3 (MS.dI x3)))))/\((RLe 1 1/\(RowsEq [.sl [.int .i64, .int .i64, .int .i64], .sl [.sl [.int .i64]], .sl [.sl [.int .i64]]] 1 (encG x1.g) (encG x1.g)))/\(((RLe x1.g.es.length x1.g.es.length)/\(RowsEq [.int .i64] x1.g.es.length (encL encI x1.ts) (encL encI x1.ts)))/\(((RLe x1.g.n x1.g.n)/\(RowsEq (Kd.bool :: []) x1.g.n (encL encBo x1.src) (encL encBo x1.src)))/\True))))))))))/\(∀ x5 : Nat, ((x5 <= x1.g.n)-> (((decide ((x5 : Int) < (x3.g.n : Int)) = true)-> ((((0 : Int) <= (x5 : Int))/\((x5 : Int) < (x3.g.n : Int)))/\((0 + Int.toNat (x5 : Int) < x3.g.n)/\(((decide (Prod.fst (faAt (MS.dI x1) x5) < (MS.dI x3).getD (0 + Int.toNat (x5 : Int)) default) = true)-> ((((-9223372036854775808 : Int) <= (x5 : Int) + 1)/\((x5 : Int) + 1 <= (9223372036854775807 : Int)))/\(∃ x9 : Nat, ((x1.g.n - x9 < x1.g.n - x5)/\((x9 <= x1.g.n)/\((((x5 : Int) + 1 = (x9 : Int))/\(((MS.dI x3).getD (0 + Int.toNat (x5 : Int)) default = Prod.fst (faAt (MS.dI x1) x9))/\(((x5 : Int) = Prod.snd (faAt (MS.dI x1) x9))/\(((x3.g.n : Int) = (x3.g.n : Int))/\((0=0 /\ x3.g.n = x3.g.n)/\((0=0/\((3 : Nat) = (3 : Nat)))/\((0=0 /\ 0=0)/\((0=0 /\ 0=0)/\(True/\((0=0 /\ 0=0)/\(((0 : Int) = 0)/\(((0 : Int) = 0)/\((0=0 /\ 0=0)/\True)))))))))))))/\(True/\(True/\(((0=0 /\ 0=0)/\((0=0 /\ x3.g.es.length = x3.g.es.length)/\((0=0 /\ x3.g.n = x3.g.n)/\((0=0 /\ x3.g.n = x3.g.n)/\((0=0 /\ x3.g.n = x3.g.n)/\(false = false/\True))))))/\(((RLe x3.g.n x3.g.n)/\(RowsEq [.int .i64] x3.g.n (encL encI (MS.dI x3)) (encL encI (MS.dI x3))))/\(((RLe x3.g.n x3.g.n)/\(RowsEq [.int .i64] x3.g.n (encL encI (soF x3 (MS.dI x3))) (encL encI (soF x3 (MS.dI x3)))))/\((RLe 1 1/\(RowsEq [.sl [.int .i64, .int .i64, .int .i64], .sl [.sl [.int .i64]], .sl [.sl [.int .i64]]] 1 (encG x1.g) (encG x1.g)))/\(((RLe x1.g.es.length x1.g.es.length)/\(RowsEq [.int .i64] x1.g.es.length (encL encI x1.ts) (encL encI x1.ts)))/\(((RLe x1.g.n x1.g.n)/\(RowsEq (Kd.bool :: []) x1.g.n (encL encBo x1.src) (encL encBo x1.src)))/\True))))))))))))))/\((decide (Prod.fst (faAt (MS.dI x1) x5) < (MS.dI x3).getD (0 + Int.toNat (x5 : Int)) default) = false)-> ((((-9223372036854775808 : Int) <= (x5 : Int) + 1)/\((x5 : Int) + 1 <= (9223372036854775807 : Int)))/\(∃ x11 : Nat, ((x1.g.n - x11 < x1.g.n - x5)/\((x11 <= x1.g.n)/\((((x5 : Int) + 1 = (x11 : Int))/\((Prod.fst (faAt (MS.dI x1) x5) = Prod.fst (faAt (MS.dI x1) x11))/\((Prod.snd (faAt (MS.dI x1) x5) = Prod.snd (faAt (MS.dI x1) x11))/\(((x3.g.n : Int) = (x3.g.n : Int))/\((0=0 /\ x3.g.n = x3.g.n)/\((0=0/\((3 : Nat) = (3 : Nat)))/\((0=0 /\ 0=0)/\((0=0 /\ 0=0)/\(True/\((0=0 /\ 0=0)/\(((0 : Int) = 0)/\(((0 : Int) = 0)/\((0=0 /\ 0=0)/\True)))))))))))))/\(True/\(True/\(((0=0 /\ 0=0)/\((0=0 /\ x3.g.es.length = x3.g.es.length)/\((0=0 /\ x3.g.n = x3.g.n)/\((0=0 /\ x3.g.n = x3.g.n)/\((0=0 /\ x3.g.n = x3.g.n)/\(false = false/\True))))))/\(((RLe x3.g.n x3.g.n)/\(RowsEq [.int .i64] x3.g.n (encL encI (MS.dI x3)) (encL encI (MS.dI x3))))/\(((RLe x3.g.n x3.g.n)/\(RowsEq [.int .i64] x3.g.n (encL encI (soF x3 (MS.dI x3))) (encL encI (soF x3 (MS.dI x3)))))/\((RLe 1 1/\(RowsEq [.sl [.int .i64, .int .i64, .int .i64], .sl [.sl [.int .i64]], .sl [.sl [.int .i64]]] 1 (encG x1.g) (encG x1.g)))/\(((RLe x1.g.es.length x1.g.es.length)/\(RowsEq [.int .i64] x1.g.es.length (encL encI x1.ts) (encL encI x1.ts)))/\(((RLe x1.g.n x1.g.n)/\(RowsEq (Kd.bool :: []) x1.g.n (encL encBo x1.src) (encL encBo x1.src)))/\True))))))))))))))))))/\((decide ((x5 : Int) < (x3.g.n : Int)) = false)-> (((Prod.fst (faAt (MS.dI x1) x5) = Prod.fst (faL (MS.dI x1)))/\((Prod.snd (faAt (MS.dI x1) x5) = Prod.snd (faL (MS.dI x1)))/\True))/\(((0=0 /\ 0=0)/\((0=0 /\ x3.g.es.length = x1.g.es.length)/\((0=0 /\ x3.g.n = x1.g.n)/\((0=0 /\ x3.g.n = x1.g.n)/\((0=0 /\ x3.g.n = x1.g.n)/\(false = false/\True))))))/\(((RLe x1.g.n x3.g.n)/\(RowsEq [.int .i64] x1.g.n (encL encI (MS.dI x3)) (encL encI (MS.dI x1))))/\(((RLe x1.g.n x3.g.n)/\(RowsEq [.int .i64] x1.g.n (encL encI (soF x3 (MS.dI x3))) (encL encI (soF x1 (MS.dI x1)))))/\(True/\(True/\True))))))))))))))))))) = (Keeps cfgJ9 Try.f17 farC farI) by kernel_rfl) (fun x1 => fun h2 => ⟨(x1),
(by omega),
⟨⟨rfl,rfl⟩,trivial⟩,
⟨⟨⟨rfl,rfl⟩,
⟨rfl,rfl⟩,
⟨rfl,rfl⟩,
⟨rfl,rfl⟩,
⟨rfl,rfl⟩,rfl,trivial⟩,
⟨⟨Nat.le_refl _⟩,RowsEq.rfl'⟩,
⟨⟨Nat.le_refl _⟩,RowsEq.rfl'⟩,
⟨⟨Nat.le_refl _⟩,RowsEq.rfl'⟩,
⟨⟨Nat.le_refl _⟩,RowsEq.rfl'⟩,
⟨⟨Nat.le_refl _⟩,RowsEq.rfl'⟩,trivial⟩,
((0 : Nat)),
⟨(by omega),
⟨(by omega),rfl,rfl,rfl,
⟨rfl,rfl⟩,
⟨rfl,rfl⟩,
⟨rfl,rfl⟩,
⟨rfl,rfl⟩,trivial,
⟨rfl,rfl⟩,rfl,rfl,
⟨rfl,rfl⟩,trivial⟩,trivial,trivial,
⟨⟨rfl,rfl⟩,
⟨rfl,rfl⟩,
⟨rfl,rfl⟩,
⟨rfl,rfl⟩,
⟨rfl,rfl⟩,rfl,trivial⟩,
⟨⟨Nat.le_refl _⟩,RowsEq.rfl'⟩,
⟨⟨Nat.le_refl _⟩,RowsEq.rfl'⟩,
⟨⟨Nat.le_refl _⟩,RowsEq.rfl'⟩,
⟨⟨Nat.le_refl _⟩,RowsEq.rfl'⟩,
⟨⟨Nat.le_refl _⟩,RowsEq.rfl'⟩,trivial⟩,
fun x5 => fun h6 => ⟨fun g7 => have h7 := of_decide_eq_true g7; ⟨⟨(by omega),
(by omega)⟩,
(by omega),
fun g8 => have h8 := of_decide_eq_true g8; ⟨⟨(by omega),
(by have q : x1.g.n <= 12 := h2.n; omega)⟩,
(x5 + (1 : Nat)),
(by omega),
(by omega),
⟨(by omega),
(by (try simp only [Nat.zero_add, Int.toNat_natCast] at *); have e := faAt_yes (d := x1.dI) (k := x5) h8; (rw [e]; done)),
(by (try simp only [Nat.zero_add, Int.toNat_natCast] at *); have e := faAt_yes (d := x1.dI) (k := x5) h8; (rw [e]; done)),rfl,
⟨rfl,rfl⟩,
⟨rfl,rfl⟩,
⟨rfl,rfl⟩,
⟨rfl,rfl⟩,trivial,
⟨rfl,rfl⟩,rfl,rfl,
⟨rfl,rfl⟩,trivial⟩,trivial,trivial,
⟨⟨rfl,rfl⟩,
⟨rfl,rfl⟩,
⟨rfl,rfl⟩,
⟨rfl,rfl⟩,
⟨rfl,rfl⟩,rfl,trivial⟩,
⟨⟨Nat.le_refl _⟩,RowsEq.rfl'⟩,
⟨⟨Nat.le_refl _⟩,RowsEq.rfl'⟩,
⟨⟨Nat.le_refl _⟩,RowsEq.rfl'⟩,
⟨⟨Nat.le_refl _⟩,RowsEq.rfl'⟩,
⟨⟨Nat.le_refl _⟩,RowsEq.rfl'⟩,trivial⟩,
fun g10 => have h10 := of_decide_eq_false g10; ⟨⟨(by omega),
(by have q : x1.g.n <= 12 := h2.n; omega)⟩,
(x5 + (1 : Nat)),
(by omega),
(by omega),
⟨(by omega),
(by (try simp only [Nat.zero_add, Int.toNat_natCast] at *); have e := faAt_no (d := x1.dI) (k := x5) h10; (rw [e]; done)),
(by (try simp only [Nat.zero_add, Int.toNat_natCast] at *); have e := faAt_no (d := x1.dI) (k := x5) h10; (rw [e]; done)),rfl,
⟨rfl,rfl⟩,
⟨rfl,rfl⟩,
⟨rfl,rfl⟩,
⟨rfl,rfl⟩,trivial,
⟨rfl,rfl⟩,rfl,rfl,
⟨rfl,rfl⟩,trivial⟩,trivial,trivial,
⟨⟨rfl,rfl⟩,
⟨rfl,rfl⟩,
⟨rfl,rfl⟩,
⟨rfl,rfl⟩,
⟨rfl,rfl⟩,rfl,trivial⟩,
⟨⟨Nat.le_refl _⟩,RowsEq.rfl'⟩,
⟨⟨Nat.le_refl _⟩,RowsEq.rfl'⟩,
⟨⟨Nat.le_refl _⟩,RowsEq.rfl'⟩,
⟨⟨Nat.le_refl _⟩,RowsEq.rfl'⟩,
⟨⟨Nat.le_refl _⟩,RowsEq.rfl'⟩,trivial⟩⟩,
fun g12 => have h12 := of_decide_eq_false g12; ⟨⟨(by rw [(fa_full h2 h6 h12)]),
(by rw [(fa_full h2 h6 h12)]),trivial⟩,
⟨⟨rfl,rfl⟩,
⟨rfl,rfl⟩,
⟨rfl,rfl⟩,
⟨rfl,rfl⟩,
⟨rfl,rfl⟩,rfl,trivial⟩,
⟨⟨Nat.le_refl _⟩,RowsEq.rfl'⟩,
⟨⟨Nat.le_refl _⟩,RowsEq.rfl'⟩,trivial,trivial,trivial⟩⟩⟩)
theorem far_good : Good Try.prog 17 farC /\ FnOk Try.prog 17 := good_of tok conJ9 (fn := Try.f17) rfl (by decide +kernel) (fun _ => rfl) far_keeps
def dAtL (es : List Ed) (k : Nat) : List Int := (List.range es.length).map fun i => if i < k then (es.getD i default).d else 0
def dL (es : List Ed) : List Int := (List.range es.length).map fun i => (es.getD i default).d
theorem dAtL_len (es : List Ed) (k : Nat) : (dAtL es k).length = es.length := by simp [dAtL]
theorem dAtL_zero (es : List Ed) : dAtL es 0 = List.replicate es.length 0 := by
 apply List.ext_getElem (by simp [dAtL])
 intro i h1 h2
 simp [dAtL]
theorem dAtL_succ {es : List Ed} {k : Nat} (hk : k < es.length) : dAtL es (k + 1) = (dAtL es k).set k (es.getD k default).d := by
 have := map_range_set (g := fun i => if i < k + 1 then (es.getD i default).d else 0) (f := fun i => if i < k then (es.getD i default).d else 0) hk (fun i hi => by
  by_cases h : i < k
  ·rw [if_pos h, if_pos (by omega)]
  ·rw [if_neg h, if_neg (by omega)])
 unfold dAtL
 rw [this, if_pos (by omega)]
theorem dAtL_full {es : List Ed} {k : Nat} (h1 : k <= es.length) (h2 : ¬ (k : Int) < es.length) : dAtL es k = dL es := by
 unfold dAtL dL
 apply List.map_congr_left
 intro i hi
 rw [List.mem_range] at hi
 rw [if_pos (by omega)]
def rtC : CT where
 X := Gr
 pre := fun g => g.es.length <= 16384
 args := fun g => [.p 100000 0 0]
 g0 := fun g => graphH g 100000
 res := fun g => .sl 1 0 g.es.length
 g1 := fun g => [(1, .rows .own k1 g.es.length (encL encI (dL g.es)))]
def rtI (g : Gr) (id : Nat) : Option Inv := match id with
 | 0 => some { X := Nat, ok := fun k => k <= g.es.length, fr := fun k => [(17, .i .i64 k)], hp := fun k => [(11, .rows .own k1 g.es.length (encL encI (dAtL g.es k)))], me := fun k => g.es.length - k }
 | _ => none
set_option maxRecDepth 100000 in
theorem rt_keeps : Keeps cfgN0 Try.f7 rtC rtI := Eq.mp (show ((∀ x1 : Gr, ((x1.es.length <= (16384 : Nat))-> ((0 < (1 : Nat))/\((((0 : Int) <= (x1.es.length : Int))/\(((x1.es.length : Int) <= (x1.es.length : Int))/\((x1.es.length : Int) <= (↑(1073741824 : Nat) : Int))))/\((0 < (1 : Nat))/\(∃ x3 : Nat, (((x3 <= x1.es.length)/\(((0 = (x3 : Int))/\(((x1.es.length : Int) = (x1.es.length : Int))/\((0=0 /\ x1.es.length = x1.es.length)/\((0=0 /\ 0=0)/\((0=0 /\ 0=0)/\((0=0 /\ 0=0)/\((0=0/\(Int.toNat (x1.es.length : Int) = Int.toNat (x1.es.length : Int)))/\((0=0/\(Int.toNat (x1.es.length : Int) = Int.toNat (x1.es.length : Int)))/\(((x1.es.length : Int) = (x1.es.length : Int))/\((0=0 /\ x1.es.length = x1.es.length)/\((0=0 /\ 0=0)/\((0=0 /\ 0=0)/\((0=0 /\ 0=0)/\(True/\((0=0 /\ 0=0)/\True)))))))))))))))/\(((RLe x1.es.length (Int.toNat (x1.es.length : Int)))/\(RowsEq [.int .i64] x1.es.length (fun (x j : Nat) => zRow [.int .i64] j) (encL encI (dAtL x1.es x3))))/\(((RLe x1.es.length x1.es.length)/\(RowsEq [.int .i64, .int .i64, .int .i64] x1.es.length (D.toF (D.l x1.es.length (encL encE x1.es))) (D.toF (D.l x1.es.length (encL encE x1.es)))))/\(((RLe x1.es.length x1.es.length)/\(RowsEq [.int .i64, .int .i64, .int .i64] x1.es.length (D.toF (D.l x1.es.length (encL encE x1.es))) (D.toF (D.l x1.es.length (encL encE x1.es)))))/\((RLe 1 1/\(RowsEq [.sl [.int .i64, .int .i64, .int .i64], .sl [.sl [.int .i64]], .sl [.sl [.int .i64]]] 1 (encG x1) (encG x1)))/\True))))))/\(∀ x4 : Nat, ((x4 <= x1.es.length)-> (((decide ((x4 : Int) < (x1.es.length : Int)) = true)-> ((((0 : Int) <= (x4 : Int))/\((x4 : Int) < (x1.es.length : Int)))/\((0 + Int.toNat (x4 : Int) < x1.es.length)/\((((0 : Int) <= (x4 : Int))/\((x4 : Int) < (↑(Int.toNat (x1.es.length : Int)) : Int)))/\(((0 + Int.toNat (x4 : Int) < x1.es.length)/\(True/\True))/\((((-9223372036854775808 : Int) <= (x4 : Int) + 1)/\((x4 : Int) + 1 <= (9223372036854775807 : Int)))/\(∃ x7 : Nat, ((x1.es.length - x7 < x1.es.length - x4)/\((x7 <= x1.es.length)/\((((x4 : Int) + 1 = (x7 : Int))/\(((x1.es.length : Int) = (x1.es.length : Int))/\((0=0 /\ x1.es.length = x1.es.length)/\((0=0 /\ 0=0)/\((0=0 /\ 0=0)/\((0=0 /\ 0=0)/\((0=0/\(Int.toNat (x1.es.length : Int) = Int.toNat (x1.es.length : Int)))/\((0=0/\(Int.toNat (x1.es.length : Int) = Int.toNat (x1.es.length : Int)))/\(((x1.es.length : Int) = (x1.es.length : Int))/\((0=0 /\ x1.es.length = x1.es.length)/\((0=0 /\ 0=0)/\((0=0 /\ 0=0)/\((0=0 /\ 0=0)/\(True/\((0=0 /\ 0=0)/\True)))))))))))))))/\(((RLe x1.es.length x1.es.length)/\(RowsEq [.int .i64] x1.es.length (setRow (encL encI (dAtL x1.es x4)) (0 + Int.toNat (x4 : Int)) 0 (D.i (x1.es.getD (0 + Int.toNat (x4 : Int)) default).d :: @List.nil D)) (encL encI (dAtL x1.es x7))))/\(((RLe x1.es.length x1.es.length)/\(RowsEq [.int .i64, .int .i64, .int .i64] x1.es.length (D.toF (D.l x1.es.length (encL encE x1.es))) (D.toF (D.l x1.es.length (encL encE x1.es)))))/\(((RLe x1.es.length x1.es.length)/\(RowsEq [.int .i64, .int .i64, .int .i64] x1.es.length (D.toF (D.l x1.es.length (encL encE x1.es))) (D.toF (D.l x1.es.length (encL encE x1.es)))))/\((RLe 1 1/\(RowsEq [.sl [.int .i64, .int .i64, .int .i64], .sl [.sl [.int .i64]], .sl [.sl [.int .i64]]] 1 (encG x1) (encG x1)))/\True))))))))))))))/\((decide ((x4 : Int) < (x1.es.length : Int)) = false)-> ((0=0/\(Int.toNat (x1.es.length : Int) = x1.es.length))/\(((RLe x1.es.length x1.es.length)/\(RowsEq [.int .i64] x1.es.length (encL encI (dAtL x1.es x4)) (encL encI (dL x1.es))))/\True)))))))))))))) = (Keeps cfgN0 Try.f7 rtC rtI) by kernel_rfl) (fun x1 => fun h2 => ⟨(by omega),
⟨(by omega),
(by omega),
(by omega)⟩,
(by omega),
((0 : Nat)),
⟨(by omega),
⟨(by omega),rfl,
⟨rfl,rfl⟩,
⟨rfl,rfl⟩,
⟨rfl,rfl⟩,
⟨rfl,rfl⟩,
⟨rfl,rfl⟩,
⟨rfl,rfl⟩,rfl,
⟨rfl,rfl⟩,
⟨rfl,rfl⟩,
⟨rfl,rfl⟩,
⟨rfl,rfl⟩,trivial,
⟨rfl,rfl⟩,trivial⟩,
⟨⟨(by omega)⟩,
(by rw [dAtL_zero]; exact rows_zeroI rfl)⟩,
⟨⟨Nat.le_refl _⟩,RowsEq.rfl'⟩,
⟨⟨Nat.le_refl _⟩,RowsEq.rfl'⟩,
⟨⟨Nat.le_refl _⟩,RowsEq.rfl'⟩,trivial⟩,
fun x4 => fun h5 => ⟨fun g6 => have h6 := of_decide_eq_true g6; ⟨⟨(by omega),
(by omega)⟩,
(by omega),
⟨(by omega),
(by omega)⟩,
⟨(by omega),trivial,trivial⟩,
⟨(by omega),
(by omega)⟩,
(x4 + (1 : Nat)),
(by omega),
(by omega),
⟨(by omega),rfl,
⟨rfl,rfl⟩,
⟨rfl,rfl⟩,
⟨rfl,rfl⟩,
⟨rfl,rfl⟩,
⟨rfl,rfl⟩,
⟨rfl,rfl⟩,rfl,
⟨rfl,rfl⟩,
⟨rfl,rfl⟩,
⟨rfl,rfl⟩,
⟨rfl,rfl⟩,trivial,
⟨rfl,rfl⟩,trivial⟩,
⟨⟨Nat.le_refl _⟩,
(by simp only [Nat.zero_add, Int.toNat_natCast] at *; rw [dAtL_succ (by omega)]; exact rows_setI (by rw [dAtL_len]; omega))⟩,
⟨⟨Nat.le_refl _⟩,RowsEq.rfl'⟩,
⟨⟨Nat.le_refl _⟩,RowsEq.rfl'⟩,
⟨⟨Nat.le_refl _⟩,RowsEq.rfl'⟩,trivial⟩,
fun g8 => have h8 := of_decide_eq_false g8; ⟨⟨rfl,
(by omega)⟩,
⟨⟨Nat.le_refl _⟩,
(by rw [dAtL_full ‹_› ‹_›]; exact RowsEq.rfl')⟩,trivial⟩⟩⟩)
theorem rt_good : Good Try.prog 7 rtC /\ FnOk Try.prog 7 := good_of tok conN0 (fn := Try.f7) rfl (by decide +kernel) (fun _ => rfl) rt_keeps
end Go.Sym