import Derived.Test.YtpommejalaechaaDoorJ6
import Derived.Test.YtpommejalaechaaDoorXD
namespace Go.Sym
set_option linter.unusedVariables false
set_option linter.unusedSimpArgs false
open Go.Proofs
set_option maxRecDepth 100000
set_option maxHeartbeats 4000000
def wiAt (d : List Int) (t : Int) (k : Nat) : List Int := ((List.range k).filter fun i => decide (d.getD i default <= t /\ d.getD i default ≠ 4611686018427387904)).map fun (i : Nat) => (i : Int)
def wiL (d : List Int) (t : Int) : List Int := wiAt d t d.length
theorem wiAt_yes {d : List Int} {t : Int} {k : Nat} (h : d.getD k default <= t) (h2 : d.getD k default ≠ 4611686018427387904) : wiAt d t (k + 1) = wiAt d t k ++ [(k : Int)] := by
 unfold wiAt; rw [List.range_succ, List.filter_append, List.filter_cons, if_pos (decide_eq_true ⟨h, h2⟩), List.map_append]; rfl
theorem wiAt_no {d : List Int} {t : Int} {k : Nat} (h : ¬ (d.getD k default <= t /\ d.getD k default ≠ 4611686018427387904)) : wiAt d t (k + 1) = wiAt d t k := by
 unfold wiAt; rw [List.range_succ, List.filter_append, List.filter_cons, if_neg (by rw [decide_eq_false h]; decide)]; simp
theorem wiAt_len (d : List Int) (t : Int) (k : Nat) : (wiAt d t k).length <= k := by
 unfold wiAt; rw [List.length_map]
 have := List.length_filter_le (fun i => decide (d.getD i default <= t /\ d.getD i default ≠ 4611686018427387904)) (List.range k); simpa using this
theorem wi_full {x : MS} (h : MSok x) {t : Int} {k : Nat} (h1 : k <= x.g.n) (h2 : ¬ (k : Int) < x.g.n) : wiAt x.dI t k = wiL x.dI t := by unfold wiL; rw [h.dlen, show k = x.g.n by omega]
def wiC : CT where
 X := MNx
 pre := fun x => MSok x.m
 args := fun x => [.p 100000 0 0, .i .i64 x.v]
 g0 := fun x => msM x.m 100000 .own .bor .bor .own
 res := fun x => setV (ofW (wiL x.m.dI x.v) (wiL x.m.dI x.v).length) 3
 g1 := fun x => upH x.m ++ [(100004, .dead), (100005, .dead)] ++ setH (ofW (wiL x.m.dI x.v) (wiL x.m.dI x.v).length) .own 3
def encW26 (m : MS) (t : Int) (k : Nat) : Bool := decide (m.dI.getD k default <= t /\ m.dI.getD k default ≠ 4611686018427387904)
def wiI (x : MNx) (id : Nat) : Option Inv := match id with
 | 0 => some { X := Nat, ok := fun k => k <= x.m.g.n, fr := fun k => [(15, .i .i64 k), (5, .sl 91 0 (wiAt x.m.dI x.v k).length)], hp := fun k => [(91, .rows .own k1 (wiAt x.m.dI x.v k).length (encL encI (wiAt x.m.dI x.v k))), (100004, .dead), (100005, .dead)], me := fun k => x.m.g.n - k,
               inn := fun k id => match id with
                | 100026 => some (cutB 26 (encW26 x.m x.v k))
                | _ => none }
 | _ => none
def cfgJ9 : Cfg := ⟨T, [], [(29, .one updC), (36, .one ofC)], noInv, 40, {}⟩
theorem conJ9 : ConOk Tryd.prog cfgJ9 := ConL.ok (.cons (ConL.one upd_good) (.cons (ConL.one of_good) .nil))
set_option maxRecDepth 100000 in
theorem wi_keeps : Keeps cfgJ9 Tryd.f20 wiC wiI := Eq.mp (show ((∀ x1 : MNx, ((MSok x1.m)-> (∃ x3 : MS, ((MSok x3)/\(((0=0 /\ 0=0)/\True)/\((((0=0 /\ 0=0)/\((0=0 /\ x1.m.g.es.length = x3.g.es.length)/\((0=0 /\ x1.m.g.n = x3.g.n)/\((0=0 /\ x1.m.dist.length = x3.dist.length)/\((0=0 /\ x1.m.so.length = x3.so.length)/\(x1.m.od = x3.od/\True))))))/\((RLe 1 1/\(RowsEq [.sl [.int .i64, .int .i64, .int .i64], .sl [.sl [.int .i64]], .sl [.sl [.int .i64]]] 1 (encG x1.m.g) (encG x3.g)))/\(((RLe x3.g.es.length x1.m.g.es.length)/\(RI x3.g.es.length x1.m.ts x3.ts))/\(((RLe x3.g.n x1.m.g.n)/\(RowsEq (Kd.bool :: []) x3.g.n (encL encBo x1.m.src) (encL encBo x3.src)))/\(((RLe x3.dist.length x1.m.dist.length)/\(RI x3.dist.length x1.m.dist x3.dist))/\(((RLe x3.so.length x1.m.so.length)/\(RI x3.so.length x1.m.so x3.so))/\True))))))/\(∃ x4 : Nat, (((x4 <= x1.m.g.n)/\(((0 = (x4 : Int))/\((True/\(0=0/\((wiAt (MS.dI x1.m) x1.v x4).length = (0 : Nat))))/\(((x3.g.n : Int) = (x3.g.n : Int))/\((0=0 /\ x3.g.n = x3.g.n)/\((0=0/\((3 : Nat) = (3 : Nat)))/\((0=0 /\ 0=0)/\((0=0 /\ 0=0)/\(True/\((0=0 /\ 0=0)/\((0=0 /\ 0=0)/\((0=0 /\ 0=0)/\(x1.v = x1.v/\True))))))))))))/\(((wiAt (MS.dI x1.m) x1.v x4).length = (0 : Nat))/\(True/\(True/\(((0=0 /\ 0=0)/\((0=0 /\ x3.g.es.length = x3.g.es.length)/\((0=0 /\ x3.g.n = x3.g.n)/\((0=0 /\ x3.g.n = x3.g.n)/\((0=0 /\ x3.g.n = x3.g.n)/\(false = false/\True))))))/\(((RLe x3.g.n x3.g.n)/\(RI x3.g.n (MS.dI x3) (MS.dI x3)))/\(((RLe x3.g.n x3.g.n)/\(RI x3.g.n (soF x3 (MS.dI x3)) (soF x3 (MS.dI x3))))/\((True/\True)/\((RLe 1 1/\(RowsEq [.sl [.int .i64, .int .i64, .int .i64], .sl [.sl [.int .i64]], .sl [.sl [.int .i64]]] 1 (encG x1.m.g) (encG x1.m.g)))/\(((RLe x1.m.g.es.length x1.m.g.es.length)/\(RI x1.m.g.es.length x1.m.ts x1.m.ts))/\(((RLe x1.m.g.n x1.m.g.n)/\(RowsEq (Kd.bool :: []) x1.m.g.n (encL encBo x1.m.src) (encL encBo x1.m.src)))/\True))))))))))))/\(∀ x5 : Nat, ((x5 <= x1.m.g.n)-> (((decide ((x5 : Int) < (x3.g.n : Int)) = true)-> ((((0 : Int) <= (x5 : Int))/\((x5 : Int) < (x3.g.n : Int)))/\((0 + Int.toNat (x5 : Int) < x3.g.n)/\((((decide ((MS.dI x3).getD (0 + Int.toNat (x5 : Int)) default <= x1.v) = true)-> (∃ x9 : Unit, (True/\((decide ((MS.dI x3).getD (0 + Int.toNat (x5 : Int)) default ≠ (4611686018427387904 : Int)) = decide ((MS.dI x1.m).getD x5 default <= x1.v/\(MS.dI x1.m).getD x5 default ≠ (4611686018427387904 : Int)))/\True))))/\((decide ((MS.dI x3).getD (0 + Int.toNat (x5 : Int)) default <= x1.v) = false)-> (∃ x11 : Unit, (True/\((false = decide ((MS.dI x1.m).getD x5 default <= x1.v/\(MS.dI x1.m).getD x5 default ≠ (4611686018427387904 : Int)))/\True)))))/\(∀ x12 : Unit, (True -> (((decide ((MS.dI x1.m).getD x5 default <= x1.v/\(MS.dI x1.m).getD x5 default ≠ (4611686018427387904 : Int)) = true)-> (((True/\True)/\True)/\((0=0/\(((wiAt (MS.dI x1.m) x1.v x5).length <= (wiAt (MS.dI x1.m) x1.v x5).length)/\(((1 : Nat) <= (1 : Nat))/\((wiAt (MS.dI x1.m) x1.v x5).length + (1 : Nat) <= (1073741824 : Nat)))))/\((((-9223372036854775808 : Int) <= (x5 : Int) + 1)/\((x5 : Int) + 1 <= (9223372036854775807 : Int)))/\(∃ x15 : Nat, ((x1.m.g.n - x15 < x1.m.g.n - x5)/\((x15 <= x1.m.g.n)/\((((x5 : Int) + 1 = (x15 : Int))/\((0=0/\((wiAt (MS.dI x1.m) x1.v x5).length + (1 : Nat) = (wiAt (MS.dI x1.m) x1.v x15).length))/\(((x3.g.n : Int) = (x3.g.n : Int))/\((0=0 /\ x3.g.n = x3.g.n)/\((0=0/\((3 : Nat) = (3 : Nat)))/\((0=0 /\ 0=0)/\((0=0 /\ 0=0)/\(True/\((0=0 /\ 0=0)/\((0=0 /\ 0=0)/\((0=0 /\ 0=0)/\(x1.v = x1.v/\True))))))))))))/\(((RLe (wiAt (MS.dI x1.m) x1.v x15).length ((wiAt (MS.dI x1.m) x1.v x5).length + (1 : Nat)))/\(RowsEq [.int .i64] (wiAt (MS.dI x1.m) x1.v x15).length (appRows (wiAt (MS.dI x1.m) x1.v x5).length (encL encI (wiAt (MS.dI x1.m) x1.v x5)) 0 (litRows ((D.i (x5 : Int) :: @List.nil D) :: @List.nil (List D)))) (encL encI (wiAt (MS.dI x1.m) x1.v x15))))/\(True/\(True/\(((0=0 /\ 0=0)/\((0=0 /\ x3.g.es.length = x3.g.es.length)/\((0=0 /\ x3.g.n = x3.g.n)/\((0=0 /\ x3.g.n = x3.g.n)/\((0=0 /\ x3.g.n = x3.g.n)/\(false = false/\True))))))/\(((RLe x3.g.n x3.g.n)/\(RI x3.g.n (MS.dI x3) (MS.dI x3)))/\(((RLe x3.g.n x3.g.n)/\(RI x3.g.n (soF x3 (MS.dI x3)) (soF x3 (MS.dI x3))))/\((True/\True)/\((RLe 1 1/\(RowsEq [.sl [.int .i64, .int .i64, .int .i64], .sl [.sl [.int .i64]], .sl [.sl [.int .i64]]] 1 (encG x1.m.g) (encG x1.m.g)))/\(((RLe x1.m.g.es.length x1.m.g.es.length)/\(RI x1.m.g.es.length x1.m.ts x1.m.ts))/\(((RLe x1.m.g.n x1.m.g.n)/\(RowsEq (Kd.bool :: []) x1.m.g.n (encL encBo x1.m.src) (encL encBo x1.m.src)))/\True))))))))))))))))))/\((decide ((MS.dI x1.m).getD x5 default <= x1.v/\(MS.dI x1.m).getD x5 default ≠ (4611686018427387904 : Int)) = false)-> ((((-9223372036854775808 : Int) <= (x5 : Int) + 1)/\((x5 : Int) + 1 <= (9223372036854775807 : Int)))/\(∃ x17 : Nat, ((x1.m.g.n - x17 < x1.m.g.n - x5)/\((x17 <= x1.m.g.n)/\((((x5 : Int) + 1 = (x17 : Int))/\((0=0/\((wiAt (MS.dI x1.m) x1.v x5).length = (wiAt (MS.dI x1.m) x1.v x17).length))/\(((x3.g.n : Int) = (x3.g.n : Int))/\((0=0 /\ x3.g.n = x3.g.n)/\((0=0/\((3 : Nat) = (3 : Nat)))/\((0=0 /\ 0=0)/\((0=0 /\ 0=0)/\(True/\((0=0 /\ 0=0)/\((0=0 /\ 0=0)/\((0=0 /\ 0=0)/\(x1.v = x1.v/\True))))))))))))/\(((RLe (wiAt (MS.dI x1.m) x1.v x17).length (wiAt (MS.dI x1.m) x1.v x5).length)/\(RowsEq [.int .i64] (wiAt (MS.dI x1.m) x1.v x17).length (encL encI (wiAt (MS.dI x1.m) x1.v x5)) (encL encI (wiAt (MS.dI x1.m) x1.v x17))))/\(True/\(True/\(((0=0 /\ 0=0)/\((0=0 /\ x3.g.es.length = x3.g.es.length)/\((0=0 /\ x3.g.n = x3.g.n)/\((0=0 /\ x3.g.n = x3.g.n)/\((0=0 /\ x3.g.n = x3.g.n)/\(false = false/\True))))))/\(((RLe x3.g.n x3.g.n)/\(RI x3.g.n (MS.dI x3) (MS.dI x3)))/\(((RLe x3.g.n x3.g.n)/\(RI x3.g.n (soF x3 (MS.dI x3)) (soF x3 (MS.dI x3))))/\((True/\True)/\((RLe 1 1/\(RowsEq [.sl [.int .i64, .int .i64, .int .i64], .sl [.sl [.int .i64]], .sl [.sl [.int .i64]]] 1 (encG x1.m.g) (encG x1.m.g)))/\(((RLe x1.m.g.es.length x1.m.g.es.length)/\(RI x1.m.g.es.length x1.m.ts x1.m.ts))/\(((RLe x1.m.g.n x1.m.g.n)/\(RowsEq (Kd.bool :: []) x1.m.g.n (encL encBo x1.m.src) (encL encBo x1.m.src)))/\True)))))))))))))))))))))))/\((decide ((x5 : Int) < (x3.g.n : Int)) = false)-> (∃ x19 : List Int, ((x19.length <= (1048576 : Nat))/\(((0=0/\((wiAt (MS.dI x1.m) x1.v x5).length = x19.length))/\True)/\((((RLe x19.length (wiAt (MS.dI x1.m) x1.v x5).length)/\(RI x19.length (wiAt (MS.dI x1.m) x1.v x5) x19))/\True)/\(((szW (ofW x19 x19.length) = szW (ofW (wiL (MS.dI x1.m) x1.v) (wiL (MS.dI x1.m) x1.v).length))/\True)/\(((0=0 /\ 0=0)/\((0=0 /\ x3.g.es.length = x1.m.g.es.length)/\((0=0 /\ x3.g.n = x1.m.g.n)/\((0=0 /\ x3.g.n = x1.m.g.n)/\((0=0 /\ x3.g.n = x1.m.g.n)/\(false = false/\True))))))/\(((RLe x1.m.g.n x3.g.n)/\(RI x1.m.g.n (MS.dI x3) (MS.dI x1.m)))/\(((RLe x1.m.g.n x3.g.n)/\(RI x1.m.g.n (soF x3 (MS.dI x3)) (soF x1.m (MS.dI x1.m))))/\(True/\(True/\(((RLe (szW (ofW (wiL (MS.dI x1.m) x1.v) (wiL (MS.dI x1.m) x1.v).length)) (szW (ofW x19 x19.length)))/\(RowsEq [.int .u64] (szW (ofW (wiL (MS.dI x1.m) x1.v) (wiL (MS.dI x1.m) x1.v).length)) (encL encW (ofW x19 x19.length)) (encL encW (ofW (wiL (MS.dI x1.m) x1.v) (wiL (MS.dI x1.m) x1.v).length))))/\True)))))))))))))))))))))))) = (Keeps cfgJ9 Tryd.f20 wiC wiI) by kernel_rfl) (fun x1 => fun h2 => ⟨(MNx.m x1),
(by omega),
⟨⟨rfl,rfl⟩,trivial⟩,
⟨⟨⟨rfl,rfl⟩,
⟨rfl,rfl⟩,
⟨rfl,rfl⟩,
⟨rfl,rfl⟩,
⟨rfl,rfl⟩,rfl,trivial⟩,
⟨rl,rr⟩,
⟨rl,rr⟩,
⟨rl,rr⟩,
⟨rl,rr⟩,
⟨rl,rr⟩,trivial⟩,
((0 : Nat)),
⟨(by omega),
⟨(by omega),
⟨trivial,rfl,rfl⟩,rfl,
⟨rfl,rfl⟩,
⟨rfl,rfl⟩,
⟨rfl,rfl⟩,
⟨rfl,rfl⟩,trivial,
⟨rfl,rfl⟩,
⟨rfl,rfl⟩,
⟨rfl,rfl⟩,rfl,trivial⟩,rfl,trivial,trivial,
⟨⟨rfl,rfl⟩,
⟨rfl,rfl⟩,
⟨rfl,rfl⟩,
⟨rfl,rfl⟩,
⟨rfl,rfl⟩,rfl,trivial⟩,
⟨rl,rr⟩,
⟨rl,rr⟩,
⟨trivial,trivial⟩,
⟨rl,rr⟩,
⟨rl,rr⟩,
⟨rl,rr⟩,trivial⟩,
fun x5 => fun h6 => ⟨fun g7 => have h7 := dT g7; ⟨⟨(by omega),
(by omega)⟩,
(by omega),
⟨fun g8 => have h8 := dT g8; ⟨(default),trivial,
(by grind),trivial⟩,
fun g10 => have h10 := dF g10; ⟨(default),trivial,
(by grind),trivial⟩⟩,
fun x12 => fun h13 => ⟨fun g14 => have h14 := dT g14; ⟨⟨⟨trivial,trivial⟩,trivial⟩,
⟨rfl,
(by omega),
(by omega),
(by have q : x1.m.g.n <= 12 := h2.n; have := wiAt_len x1.m.dI x1.v x5; omega)⟩,
⟨(by omega),
(by have q : x1.m.g.n <= 12 := h2.n; have := wiAt_len x1.m.dI x1.v x5; omega)⟩,
(x5 + (1 : Nat)),
(by omega),
(by omega),
⟨(by omega),
⟨rfl,
(by (try simp only [Nat.zero_add, Int.toNat_natCast] at *); have e := wiAt_yes (d := x1.m.dI) (t := x1.v) (k := x5) h14.1 h14.2; (simp only [e, List.length_append, List.length_cons, List.length_nil]; done))⟩,rfl,
⟨rfl,rfl⟩,
⟨rfl,rfl⟩,
⟨rfl,rfl⟩,
⟨rfl,rfl⟩,trivial,
⟨rfl,rfl⟩,
⟨rfl,rfl⟩,
⟨rfl,rfl⟩,rfl,trivial⟩,
⟨⟨(by (try simp only [Nat.zero_add, Int.toNat_natCast] at *); have e := wiAt_yes (d := x1.m.dI) (t := x1.v) (k := x5) h14.1 h14.2; (simp only [e, List.length_append, List.length_cons, List.length_nil]; omega))⟩,
(by rw [(wiAt_yes (d := x1.m.dI) (t := x1.v) (k := x5) h14.1 h14.2)]; exact srcs_rows)⟩,trivial,trivial,
⟨⟨rfl,rfl⟩,
⟨rfl,rfl⟩,
⟨rfl,rfl⟩,
⟨rfl,rfl⟩,
⟨rfl,rfl⟩,rfl,trivial⟩,
⟨rl,rr⟩,
⟨rl,rr⟩,
⟨trivial,trivial⟩,
⟨rl,rr⟩,
⟨rl,rr⟩,
⟨rl,rr⟩,trivial⟩,
fun g16 => have h16 := dF g16; ⟨⟨(by omega),
(by have q : x1.m.g.n <= 12 := h2.n; have := wiAt_len x1.m.dI x1.v x5; omega)⟩,
(x5 + (1 : Nat)),
(by omega),
(by omega),
⟨(by omega),
⟨rfl,
(by rw [(wiAt_no (d := x1.m.dI) (t := x1.v) (k := x5) h16)])⟩,rfl,
⟨rfl,rfl⟩,
⟨rfl,rfl⟩,
⟨rfl,rfl⟩,
⟨rfl,rfl⟩,trivial,
⟨rfl,rfl⟩,
⟨rfl,rfl⟩,
⟨rfl,rfl⟩,rfl,trivial⟩,
⟨⟨(by rw [(wiAt_no (d := x1.m.dI) (t := x1.v) (k := x5) h16)]; exact Nat.le_refl _)⟩,
(by rw [(wiAt_no (d := x1.m.dI) (t := x1.v) (k := x5) h16)]; exact rr)⟩,trivial,trivial,
⟨⟨rfl,rfl⟩,
⟨rfl,rfl⟩,
⟨rfl,rfl⟩,
⟨rfl,rfl⟩,
⟨rfl,rfl⟩,rfl,trivial⟩,
⟨rl,rr⟩,
⟨rl,rr⟩,
⟨trivial,trivial⟩,
⟨rl,rr⟩,
⟨rl,rr⟩,
⟨rl,rr⟩,trivial⟩⟩⟩,
fun g18 => have h18 := dF g18; ⟨(wiAt (MS.dI (MNx.m x1)) (MNx.v x1) x5),
(by have q : x1.m.g.n <= 12 := h2.n; have := wiAt_len x1.m.dI x1.v x5; omega),
⟨⟨rfl,rfl⟩,trivial⟩,
⟨⟨rl,rr⟩,trivial⟩,
⟨(by rw [wi_full h2 h6 h18]; first | done | exact Nat.le_refl _ | exact rr),trivial⟩,
⟨⟨rfl,rfl⟩,
⟨rfl,rfl⟩,
⟨rfl,rfl⟩,
⟨rfl,rfl⟩,
⟨rfl,rfl⟩,rfl,trivial⟩,
⟨rl,rr⟩,
⟨rl,rr⟩,trivial,trivial,
⟨⟨(by rw [wi_full h2 h6 h18]; first | done | exact Nat.le_refl _ | exact rr)⟩,
(by rw [wi_full h2 h6 h18]; first | done | exact Nat.le_refl _ | exact rr)⟩,trivial⟩⟩⟩)
theorem wi_good : Good Tryd.prog 20 wiC /\ FnOk Tryd.prog 20 := good_of tok conJ9 (fn := Tryd.f20) rfl (by decide +kernel) (fun _ => rfl) wi_keeps
def faSt (s : Int × Int) (d : List Int) (i : Nat) : Int × Int := if s.1 < d.getD i default then (d.getD i default, (i : Int)) else s
def faAt (d : List Int) (k : Nat) : Int × Int := (List.range k).foldl (fun s i => faSt s d i) (-1, -1)
def faL (d : List Int) : Int × Int := faAt d d.length
theorem faAt_yes {d : List Int} {k : Nat} (h : (faAt d k).1 < d.getD k default) : faAt d (k + 1) = (d.getD k default, (k : Int)) := by
 unfold faAt at h ⊢; rw [List.range_succ, List.foldl_append]; exact if_pos h
theorem faAt_no {d : List Int} {k : Nat} (h : ¬ (faAt d k).1 < d.getD k default) : faAt d (k + 1) = faAt d k := by
 unfold faAt at h ⊢; rw [List.range_succ, List.foldl_append]; exact if_neg h
theorem fa_full {x : MS} (h : MSok x) {k : Nat} (h1 : k <= x.g.n) (h2 : ¬ (k : Int) < x.g.n) : faAt x.dI k = faL x.dI := by unfold faL; rw [h.dlen, show k = x.g.n by omega]
def farC : CT where
 X := MS
 pre := MSok
 args := fun x => [.p 100000 0 0]
 g0 := fun x => msM x 100000 .own .bor .bor .own
 res := fun x => .tup [.i .i64 (faL x.dI).1, .i .i64 (faL x.dI).2]
 g1 := fun x => upH x ++ [(100004, .dead), (100005, .dead)]
def farI (x : MS) (id : Nat) : Option Inv := match id with
 | 0 => some { X := Nat, ok := fun k => k <= x.g.n, fr := fun k => [(15, .i .i64 k), (4, .i .i64 (faAt x.dI k).1), (5, .i .i64 (faAt x.dI k).2)], hp := fun _ => [(100004, .dead), (100005, .dead)], me := fun k => x.g.n - k }
 | _ => none
set_option maxRecDepth 100000 in
theorem far_keeps : Keeps cfgJ9 Tryd.f23 farC farI := Eq.mp (show ((∀ x1 : MS, ((MSok x1)-> (∃ x3 : MS, ((MSok x3)/\(((0=0 /\ 0=0)/\True)/\((((0=0 /\ 0=0)/\((0=0 /\ x1.g.es.length = x3.g.es.length)/\((0=0 /\ x1.g.n = x3.g.n)/\((0=0 /\ x1.dist.length = x3.dist.length)/\((0=0 /\ x1.so.length = x3.so.length)/\(x1.od = x3.od/\True))))))/\((RLe 1 1/\(RowsEq [.sl [.int .i64, .int .i64, .int .i64], .sl [.sl [.int .i64]], .sl [.sl [.int .i64]]] 1 (encG x1.g) (encG x3.g)))/\(((RLe x3.g.es.length x1.g.es.length)/\(RI x3.g.es.length x1.ts x3.ts))/\(((RLe x3.g.n x1.g.n)/\(RowsEq (Kd.bool :: []) x3.g.n (encL encBo x1.src) (encL encBo x3.src)))/\(((RLe x3.dist.length x1.dist.length)/\(RI x3.dist.length x1.dist x3.dist))/\(((RLe x3.so.length x1.so.length)/\(RI x3.so.length x1.so x3.so))/\True))))))/\(∃ x4 : Nat, (((x4 <= x1.g.n)/\(((0 = (x4 : Int))/\(((-1 : Int) = Prod.fst (faAt (MS.dI x1) x4))/\(((-1 : Int) = Prod.snd (faAt (MS.dI x1) x4))/\(((x3.g.n : Int) = (x3.g.n : Int))/\((0=0 /\ x3.g.n = x3.g.n)/\((0=0/\((3 : Nat) = (3 : Nat)))/\((0=0 /\ 0=0)/\((0=0 /\ 0=0)/\(True/\((0=0 /\ 0=0)/\(((0 : Int) = 0)/\(((0 : Int) = 0)/\((0=0 /\ 0=0)/\True)))))))))))))/\(True/\(True/\(((0=0 /\ 0=0)/\((0=0 /\ x3.g.es.length = x3.g.es.length)/\((0=0 /\ x3.g.n = x3.g.n)/\((0=0 /\ x3.g.n = x3.g.n)/\((0=0 /\ x3.g.n = x3.g.n)/\(false = false/\True))))))/\(((RLe x3.g.n x3.g.n)/\(RI x3.g.n (MS.dI x3) (MS.dI x3)))/\(((RLe x3.g.n x3.g.n)/\(RI x3.g.n (soF x3 (MS.dI x3)) (soF x3 (MS.dI x3))))/\((RLe 1 1/\(RowsEq [.sl [.int .i64, .int .i64, .int .i64], .sl [.sl [.int .i64]], .sl [.sl [.int .i64]]] 1 (encG x1.g) (encG x1.g)))/\(((RLe x1.g.es.length x1.g.es.length)/\(RI x1.g.es.length x1.ts x1.ts))/\(((RLe x1.g.n x1.g.n)/\(RowsEq (Kd.bool :: []) x1.g.n (encL encBo x1.src) (encL encBo x1.src)))/\True))))))))))/\(∀ x5 : Nat, ((x5 <= x1.g.n)-> (((decide ((x5 : Int) < (x3.g.n : Int)) = true)-> ((((0 : Int) <= (x5 : Int))/\((x5 : Int) < (x3.g.n : Int)))/\((0 + Int.toNat (x5 : Int) < x3.g.n)/\(((decide (Prod.fst (faAt (MS.dI x1) x5) < (MS.dI x3).getD (0 + Int.toNat (x5 : Int)) default) = true)-> ((((-9223372036854775808 : Int) <= (x5 : Int) + 1)/\((x5 : Int) + 1 <= (9223372036854775807 : Int)))/\(∃ x9 : Nat, ((x1.g.n - x9 < x1.g.n - x5)/\((x9 <= x1.g.n)/\((((x5 : Int) + 1 = (x9 : Int))/\(((MS.dI x3).getD (0 + Int.toNat (x5 : Int)) default = Prod.fst (faAt (MS.dI x1) x9))/\(((x5 : Int) = Prod.snd (faAt (MS.dI x1) x9))/\(((x3.g.n : Int) = (x3.g.n : Int))/\((0=0 /\ x3.g.n = x3.g.n)/\((0=0/\((3 : Nat) = (3 : Nat)))/\((0=0 /\ 0=0)/\((0=0 /\ 0=0)/\(True/\((0=0 /\ 0=0)/\(((0 : Int) = 0)/\(((0 : Int) = 0)/\((0=0 /\ 0=0)/\True)))))))))))))/\(True/\(True/\(((0=0 /\ 0=0)/\((0=0 /\ x3.g.es.length = x3.g.es.length)/\((0=0 /\ x3.g.n = x3.g.n)/\((0=0 /\ x3.g.n = x3.g.n)/\((0=0 /\ x3.g.n = x3.g.n)/\(false = false/\True))))))/\(((RLe x3.g.n x3.g.n)/\(RI x3.g.n (MS.dI x3) (MS.dI x3)))/\(((RLe x3.g.n x3.g.n)/\(RI x3.g.n (soF x3 (MS.dI x3)) (soF x3 (MS.dI x3))))/\((RLe 1 1/\(RowsEq [.sl [.int .i64, .int .i64, .int .i64], .sl [.sl [.int .i64]], .sl [.sl [.int .i64]]] 1 (encG x1.g) (encG x1.g)))/\(((RLe x1.g.es.length x1.g.es.length)/\(RI x1.g.es.length x1.ts x1.ts))/\(((RLe x1.g.n x1.g.n)/\(RowsEq (Kd.bool :: []) x1.g.n (encL encBo x1.src) (encL encBo x1.src)))/\True))))))))))))))/\((decide (Prod.fst (faAt (MS.dI x1) x5) < (MS.dI x3).getD (0 + Int.toNat (x5 : Int)) default) = false)-> ((((-9223372036854775808 : Int) <= (x5 : Int) + 1)/\((x5 : Int) + 1 <= (9223372036854775807 : Int)))/\(∃ x11 : Nat, ((x1.g.n - x11 < x1.g.n - x5)/\((x11 <= x1.g.n)/\((((x5 : Int) + 1 = (x11 : Int))/\((Prod.fst (faAt (MS.dI x1) x5) = Prod.fst (faAt (MS.dI x1) x11))/\((Prod.snd (faAt (MS.dI x1) x5) = Prod.snd (faAt (MS.dI x1) x11))/\(((x3.g.n : Int) = (x3.g.n : Int))/\((0=0 /\ x3.g.n = x3.g.n)/\((0=0/\((3 : Nat) = (3 : Nat)))/\((0=0 /\ 0=0)/\((0=0 /\ 0=0)/\(True/\((0=0 /\ 0=0)/\(((0 : Int) = 0)/\(((0 : Int) = 0)/\((0=0 /\ 0=0)/\True)))))))))))))/\(True/\(True/\(((0=0 /\ 0=0)/\((0=0 /\ x3.g.es.length = x3.g.es.length)/\((0=0 /\ x3.g.n = x3.g.n)/\((0=0 /\ x3.g.n = x3.g.n)/\((0=0 /\ x3.g.n = x3.g.n)/\(false = false/\True))))))/\(((RLe x3.g.n x3.g.n)/\(RI x3.g.n (MS.dI x3) (MS.dI x3)))/\(((RLe x3.g.n x3.g.n)/\(RI x3.g.n (soF x3 (MS.dI x3)) (soF x3 (MS.dI x3))))/\((RLe 1 1/\(RowsEq [.sl [.int .i64, .int .i64, .int .i64], .sl [.sl [.int .i64]], .sl [.sl [.int .i64]]] 1 (encG x1.g) (encG x1.g)))/\(((RLe x1.g.es.length x1.g.es.length)/\(RI x1.g.es.length x1.ts x1.ts))/\(((RLe x1.g.n x1.g.n)/\(RowsEq (Kd.bool :: []) x1.g.n (encL encBo x1.src) (encL encBo x1.src)))/\True))))))))))))))))))/\((decide ((x5 : Int) < (x3.g.n : Int)) = false)-> (((Prod.fst (faAt (MS.dI x1) x5) = Prod.fst (faL (MS.dI x1)))/\((Prod.snd (faAt (MS.dI x1) x5) = Prod.snd (faL (MS.dI x1)))/\True))/\(((0=0 /\ 0=0)/\((0=0 /\ x3.g.es.length = x1.g.es.length)/\((0=0 /\ x3.g.n = x1.g.n)/\((0=0 /\ x3.g.n = x1.g.n)/\((0=0 /\ x3.g.n = x1.g.n)/\(false = false/\True))))))/\(((RLe x1.g.n x3.g.n)/\(RI x1.g.n (MS.dI x3) (MS.dI x1)))/\(((RLe x1.g.n x3.g.n)/\(RI x1.g.n (soF x3 (MS.dI x3)) (soF x1 (MS.dI x1))))/\(True/\(True/\True))))))))))))))))))) = (Keeps cfgJ9 Tryd.f23 farC farI) by kernel_rfl) (fun x1 => fun h2 => ⟨(x1),
(by omega),
⟨⟨rfl,rfl⟩,trivial⟩,
⟨⟨⟨rfl,rfl⟩,
⟨rfl,rfl⟩,
⟨rfl,rfl⟩,
⟨rfl,rfl⟩,
⟨rfl,rfl⟩,rfl,trivial⟩,
⟨rl,rr⟩,
⟨rl,rr⟩,
⟨rl,rr⟩,
⟨rl,rr⟩,
⟨rl,rr⟩,trivial⟩,
((0 : Nat)),
⟨(by omega),
⟨(by omega),rfl,rfl,rfl,
⟨rfl,rfl⟩,
⟨rfl,rfl⟩,
⟨rfl,rfl⟩,
⟨rfl,rfl⟩,trivial,
⟨rfl,rfl⟩,rfl,rfl,
⟨rfl,rfl⟩,trivial⟩,trivial,trivial,
⟨⟨rfl,rfl⟩,
⟨rfl,rfl⟩,
⟨rfl,rfl⟩,
⟨rfl,rfl⟩,
⟨rfl,rfl⟩,rfl,trivial⟩,
⟨rl,rr⟩,
⟨rl,rr⟩,
⟨rl,rr⟩,
⟨rl,rr⟩,
⟨rl,rr⟩,trivial⟩,
fun x5 => fun h6 => ⟨fun g7 => have h7 := dT g7; ⟨⟨(by omega),
(by omega)⟩,
(by omega),
fun g8 => have h8 := dT g8; ⟨⟨(by omega),
(by have q : x1.g.n <= 12 := h2.n; omega)⟩,
(x5 + (1 : Nat)),
(by omega),
(by omega),
⟨(by omega),
(by (try simp only [Nat.zero_add, Int.toNat_natCast] at *); have e := faAt_yes (d := x1.dI) (k := x5) h8; (rw [e]; done)),
(by (try simp only [Nat.zero_add, Int.toNat_natCast] at *); have e := faAt_yes (d := x1.dI) (k := x5) h8; (rw [e]; done)),rfl,
⟨rfl,rfl⟩,
⟨rfl,rfl⟩,
⟨rfl,rfl⟩,
⟨rfl,rfl⟩,trivial,
⟨rfl,rfl⟩,rfl,rfl,
⟨rfl,rfl⟩,trivial⟩,trivial,trivial,
⟨⟨rfl,rfl⟩,
⟨rfl,rfl⟩,
⟨rfl,rfl⟩,
⟨rfl,rfl⟩,
⟨rfl,rfl⟩,rfl,trivial⟩,
⟨rl,rr⟩,
⟨rl,rr⟩,
⟨rl,rr⟩,
⟨rl,rr⟩,
⟨rl,rr⟩,trivial⟩,
fun g10 => have h10 := dF g10; ⟨⟨(by omega),
(by have q : x1.g.n <= 12 := h2.n; omega)⟩,
(x5 + (1 : Nat)),
(by omega),
(by omega),
⟨(by omega),
(by (try simp only [Nat.zero_add, Int.toNat_natCast] at *); have e := faAt_no (d := x1.dI) (k := x5) h10; (rw [e]; done)),
(by (try simp only [Nat.zero_add, Int.toNat_natCast] at *); have e := faAt_no (d := x1.dI) (k := x5) h10; (rw [e]; done)),rfl,
⟨rfl,rfl⟩,
⟨rfl,rfl⟩,
⟨rfl,rfl⟩,
⟨rfl,rfl⟩,trivial,
⟨rfl,rfl⟩,rfl,rfl,
⟨rfl,rfl⟩,trivial⟩,trivial,trivial,
⟨⟨rfl,rfl⟩,
⟨rfl,rfl⟩,
⟨rfl,rfl⟩,
⟨rfl,rfl⟩,
⟨rfl,rfl⟩,rfl,trivial⟩,
⟨rl,rr⟩,
⟨rl,rr⟩,
⟨rl,rr⟩,
⟨rl,rr⟩,
⟨rl,rr⟩,trivial⟩⟩,
fun g12 => have h12 := dF g12; ⟨⟨(by rw [(fa_full h2 h6 h12)]),
(by rw [(fa_full h2 h6 h12)]),trivial⟩,
⟨⟨rfl,rfl⟩,
⟨rfl,rfl⟩,
⟨rfl,rfl⟩,
⟨rfl,rfl⟩,
⟨rfl,rfl⟩,rfl,trivial⟩,
⟨rl,rr⟩,
⟨rl,rr⟩,trivial,trivial,trivial⟩⟩⟩)
theorem far_good : Good Tryd.prog 23 farC /\ FnOk Tryd.prog 23 := good_of tok conJ9 (fn := Tryd.f23) rfl (by decide +kernel) (fun _ => rfl) far_keeps
def dAtL (es : List Ed) (k : Nat) : List Int := (List.range es.length).map fun i => if i < k then (es.getD i default).d else 0
def dL (es : List Ed) : List Int := (List.range es.length).map fun i => (es.getD i default).d
theorem dAtL_len (es : List Ed) (k : Nat) : (dAtL es k).length = es.length := by simp [dAtL]
theorem dAtL_zero (es : List Ed) : dAtL es 0 = List.replicate es.length 0 := by
 apply List.ext_getElem (by simp [dAtL])
 intro i h1 h2
 simp [dAtL]
theorem dAtL_succ {es : List Ed} {k : Nat} (hk : k < es.length) : dAtL es (k + 1) = (dAtL es k).set k (es.getD k default).d := by
 have := map_range_set (g := fun i => if i < k + 1 then (es.getD i default).d else 0) (f := fun i => if i < k then (es.getD i default).d else 0) hk (fun i hi => by
  by_cases h : i < k
  ·rw [if_pos h, if_pos (by omega)]
  ·rw [if_neg h, if_neg (by omega)])
 unfold dAtL
 rw [this, if_pos (by omega)]
theorem dAtL_full {es : List Ed} {k : Nat} (h1 : k <= es.length) (h2 : ¬ (k : Int) < es.length) : dAtL es k = dL es := by
 unfold dAtL dL
 apply List.map_congr_left
 intro i hi
 rw [List.mem_range] at hi
 rw [if_pos (by omega)]
def rtC : CT where
 X := Gr
 pre := fun g => g.es.length <= 16384
 args := fun g => [.p 100000 0 0]
 g0 := fun g => graphH g 100000
 res := fun g => .sl 1 0 g.es.length
 g1 := fun g => [(1, .rows .own k1 g.es.length (encL encI (dL g.es)))]
def rtI (g : Gr) (id : Nat) : Option Inv := match id with
 | 0 => some { X := Nat, ok := fun k => k <= g.es.length, fr := fun k => [(17, .i .i64 k)], hp := fun k => [(11, .rows .own k1 g.es.length (encL encI (dAtL g.es k)))], me := fun k => g.es.length - k }
 | _ => none
set_option maxRecDepth 100000 in
theorem rt_keeps : Keeps cfgN0 Tryd.f22 rtC rtI := Eq.mp (show ((∀ x1 : Gr, ((x1.es.length <= (16384 : Nat))-> ((0 < (1 : Nat))/\((((0 : Int) <= (x1.es.length : Int))/\(((x1.es.length : Int) <= (x1.es.length : Int))/\((x1.es.length : Int) <= (↑(1073741824 : Nat) : Int))))/\((0 < (1 : Nat))/\(∃ x3 : Nat, (((x3 <= x1.es.length)/\(((0 = (x3 : Int))/\(((x1.es.length : Int) = (x1.es.length : Int))/\((0=0 /\ x1.es.length = x1.es.length)/\((0=0 /\ 0=0)/\((0=0 /\ 0=0)/\((0=0 /\ 0=0)/\((0=0/\(Int.toNat (x1.es.length : Int) = Int.toNat (x1.es.length : Int)))/\((0=0/\(Int.toNat (x1.es.length : Int) = Int.toNat (x1.es.length : Int)))/\(((x1.es.length : Int) = (x1.es.length : Int))/\((0=0 /\ x1.es.length = x1.es.length)/\((0=0 /\ 0=0)/\((0=0 /\ 0=0)/\((0=0 /\ 0=0)/\(True/\((0=0 /\ 0=0)/\True)))))))))))))))/\(((RLe x1.es.length (Int.toNat (x1.es.length : Int)))/\(RowsEq [.int .i64] x1.es.length (fun (x j : Nat) => zRow [.int .i64] j) (encL encI (dAtL x1.es x3))))/\(((RLe x1.es.length x1.es.length)/\(RowsEq [.int .i64, .int .i64, .int .i64] x1.es.length (D.toF (D.l x1.es.length (encL encE x1.es))) (D.toF (D.l x1.es.length (encL encE x1.es)))))/\(((RLe x1.es.length x1.es.length)/\(RowsEq [.int .i64, .int .i64, .int .i64] x1.es.length (D.toF (D.l x1.es.length (encL encE x1.es))) (D.toF (D.l x1.es.length (encL encE x1.es)))))/\((RLe 1 1/\(RowsEq [.sl [.int .i64, .int .i64, .int .i64], .sl [.sl [.int .i64]], .sl [.sl [.int .i64]]] 1 (encG x1) (encG x1)))/\True))))))/\(∀ x4 : Nat, ((x4 <= x1.es.length)-> (((decide ((x4 : Int) < (x1.es.length : Int)) = true)-> ((((0 : Int) <= (x4 : Int))/\((x4 : Int) < (x1.es.length : Int)))/\((0 + Int.toNat (x4 : Int) < x1.es.length)/\((((0 : Int) <= (x4 : Int))/\((x4 : Int) < (↑(Int.toNat (x1.es.length : Int)) : Int)))/\(((0 + Int.toNat (x4 : Int) < x1.es.length)/\(True/\True))/\((((-9223372036854775808 : Int) <= (x4 : Int) + 1)/\((x4 : Int) + 1 <= (9223372036854775807 : Int)))/\(∃ x7 : Nat, ((x1.es.length - x7 < x1.es.length - x4)/\((x7 <= x1.es.length)/\((((x4 : Int) + 1 = (x7 : Int))/\(((x1.es.length : Int) = (x1.es.length : Int))/\((0=0 /\ x1.es.length = x1.es.length)/\((0=0 /\ 0=0)/\((0=0 /\ 0=0)/\((0=0 /\ 0=0)/\((0=0/\(Int.toNat (x1.es.length : Int) = Int.toNat (x1.es.length : Int)))/\((0=0/\(Int.toNat (x1.es.length : Int) = Int.toNat (x1.es.length : Int)))/\(((x1.es.length : Int) = (x1.es.length : Int))/\((0=0 /\ x1.es.length = x1.es.length)/\((0=0 /\ 0=0)/\((0=0 /\ 0=0)/\((0=0 /\ 0=0)/\(True/\((0=0 /\ 0=0)/\True)))))))))))))))/\(((RLe x1.es.length x1.es.length)/\(RowsEq [.int .i64] x1.es.length (setRow (encL encI (dAtL x1.es x4)) (0 + Int.toNat (x4 : Int)) 0 (D.i (x1.es.getD (0 + Int.toNat (x4 : Int)) default).d :: @List.nil D)) (encL encI (dAtL x1.es x7))))/\(((RLe x1.es.length x1.es.length)/\(RowsEq [.int .i64, .int .i64, .int .i64] x1.es.length (D.toF (D.l x1.es.length (encL encE x1.es))) (D.toF (D.l x1.es.length (encL encE x1.es)))))/\(((RLe x1.es.length x1.es.length)/\(RowsEq [.int .i64, .int .i64, .int .i64] x1.es.length (D.toF (D.l x1.es.length (encL encE x1.es))) (D.toF (D.l x1.es.length (encL encE x1.es)))))/\((RLe 1 1/\(RowsEq [.sl [.int .i64, .int .i64, .int .i64], .sl [.sl [.int .i64]], .sl [.sl [.int .i64]]] 1 (encG x1) (encG x1)))/\True))))))))))))))/\((decide ((x4 : Int) < (x1.es.length : Int)) = false)-> ((0=0/\(Int.toNat (x1.es.length : Int) = x1.es.length))/\(((RLe x1.es.length x1.es.length)/\(RI x1.es.length (dAtL x1.es x4) (dL x1.es)))/\True)))))))))))))) = (Keeps cfgN0 Tryd.f22 rtC rtI) by kernel_rfl) (fun x1 => fun h2 => ⟨(by omega),
⟨(by omega),
(by omega),
(by omega)⟩,
(by omega),
((0 : Nat)),
⟨(by omega),
⟨(by omega),rfl,
⟨rfl,rfl⟩,
⟨rfl,rfl⟩,
⟨rfl,rfl⟩,
⟨rfl,rfl⟩,
⟨rfl,rfl⟩,
⟨rfl,rfl⟩,rfl,
⟨rfl,rfl⟩,
⟨rfl,rfl⟩,
⟨rfl,rfl⟩,
⟨rfl,rfl⟩,trivial,
⟨rfl,rfl⟩,trivial⟩,
⟨⟨(by omega)⟩,
(by rw [dAtL_zero]; exact rows_zeroI rfl)⟩,
⟨rl,rr⟩,
⟨rl,rr⟩,
⟨rl,rr⟩,trivial⟩,
fun x4 => fun h5 => ⟨fun g6 => have h6 := dT g6; ⟨⟨(by omega),
(by omega)⟩,
(by omega),
⟨(by omega),
(by omega)⟩,
⟨(by omega),trivial,trivial⟩,
⟨(by omega),
(by omega)⟩,
(x4 + (1 : Nat)),
(by omega),
(by omega),
⟨(by omega),rfl,
⟨rfl,rfl⟩,
⟨rfl,rfl⟩,
⟨rfl,rfl⟩,
⟨rfl,rfl⟩,
⟨rfl,rfl⟩,
⟨rfl,rfl⟩,rfl,
⟨rfl,rfl⟩,
⟨rfl,rfl⟩,
⟨rfl,rfl⟩,
⟨rfl,rfl⟩,trivial,
⟨rfl,rfl⟩,trivial⟩,
⟨rl,
(by simp only [Nat.zero_add, Int.toNat_natCast] at *; rw [dAtL_succ (by omega)]; exact rows_setI (by rw [dAtL_len]; omega))⟩,
⟨rl,rr⟩,
⟨rl,rr⟩,
⟨rl,rr⟩,trivial⟩,
fun g8 => have h8 := dF g8; ⟨⟨rfl,
(by omega)⟩,
⟨rl,
(by rw [dAtL_full ‹_› ‹_›]; exact rr)⟩,trivial⟩⟩⟩)
end Go.Sym