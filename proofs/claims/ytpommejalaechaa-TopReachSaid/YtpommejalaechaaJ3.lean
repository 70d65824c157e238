import Derived.Test.YtpommejalaechaaJ0
import Derived.Test.YtpommejalaechaaJ2
import Derived.Test.YtpommejalaechaaXD
namespace Go.Sym
set_option linter.unusedVariables false
set_option linter.unusedSimpArgs false
open Go.Proofs
set_option maxHeartbeats 4000000
def msC (x : MS) (a : Nat) : List SV := [.p (a + 1) 0 0, .sl (a + 2) 0 x.g.es.length, .sl (a + 3) 0 x.g.n, .sl (a + 4) 0 x.dist.length, .sl (a + 5) 0 x.so.length, .b x.od]
def msH (x : MS) (a : Nat) (m : Md) : List (Nat × Blk) := [(a, .one m (msC x a)), (a + 1, .rows .bor kG 1 (encG x.g)), (a + 2, .rows m k1 x.g.es.length (encL encI x.ts)), (a + 3, .rows m kB x.g.n (encL encBo x.src)), (a + 4, .rows m k1 x.dist.length (encL encI x.dist)), (a + 5, .rows m k1 x.so.length (encL encI x.so))]
def nanC : CT where
 X := Int
 pre := fun _ => True
 args := fun a => [.i .i64 a]
 g0 := fun _ => []
 res := fun _ => .b false
 g1 := fun _ => []
set_option maxRecDepth 100000 in
theorem nan_keeps : Keeps cfgN0 Try.f46 nanC noIv := Eq.mp (show ((∀ x1 : Int, (True -> ((decide (x1 ≠ x1) = false)/\True)))) = (Keeps cfgN0 Try.f46 nanC noIv) by kernel_rfl) (fun x1 => fun h2 => ⟨(by grind),trivial⟩)
theorem nan_good : Good Try.prog 46 nanC /\ FnOk Try.prog 46 := good_of tok conN0 (fn := Try.f46) rfl (by decide +kernel) (fun _ => rfl) nan_keeps
structure I2x where
 a : Int
 b : Int
def cmpI (a b : Int) : Int := if a < b then -1 else if b < a then 1 else 0
theorem cmp_lt {a b : Int} (h : a < b) : cmpI a b = -1 := if_pos h
theorem cmp_gt {a b : Int} (h : ¬ a < b) (h2 : b < a) : cmpI a b = 1 := by unfold cmpI; rw [if_neg h, if_pos h2]
theorem cmp_eq {a b : Int} (h : ¬ a < b) (h2 : ¬ b < a) : cmpI a b = 0 := by unfold cmpI; rw [if_neg h, if_neg h2]
theorem cmp_neg {a b : Int} : cmpI a b < 0 ↔ a < b := by unfold cmpI; split <;> (try split) <;> omega
def cmpC : CT where
 X := I2x
 pre := fun _ => True
 args := fun x => [.i .i64 x.a, .i .i64 x.b]
 g0 := fun _ => []
 res := fun x => .i .i64 (cmpI x.a x.b)
 g1 := fun _ => []
def cfgJ1 : Cfg := ⟨T, [], [(46, .one nanC)], noInv, 20, {}⟩
theorem conJ1 : ConOk Try.prog cfgJ1 := ConL.ok (.cons (ConL.one nan_good) .nil)
set_option maxRecDepth 100000 in
theorem cmp_keeps : Keeps cfgJ1 Try.f32 cmpC noIv := Eq.mp (show ((∀ x1 : I2x, (True -> (∃ x3 : Int, (True/\((x1.a = x3/\True)/\(True/\(∃ x4 : Int, (True/\((x1.b = x4/\True)/\(True/\((false = true -> ((false = true -> (((0 : Int) = cmpI x1.a x1.b)/\True))/\(false = false -> (((-1 : Int) = cmpI x1.a x1.b)/\True))))/\(false = false -> ((false = true -> (((1 : Int) = cmpI x1.a x1.b)/\True))/\(false = false -> (((decide (x1.a < x1.b) = true)-> (((-1 : Int) = cmpI x1.a x1.b)/\True))/\((decide (x1.a < x1.b) = false)-> (((decide (x1.b < x1.a) = true)-> (((1 : Int) = cmpI x1.a x1.b)/\True))/\((decide (x1.b < x1.a) = false)-> (((0 : Int) = cmpI x1.a x1.b)/\True)))))))))))))))))))) = (Keeps cfgJ1 Try.f32 cmpC noIv) by kernel_rfl) (fun x1 => fun h2 => ⟨(I2x.a x1),trivial,
⟨rfl,trivial⟩,trivial,
(I2x.b x1),trivial,
⟨rfl,trivial⟩,trivial,
fun h5 => ⟨fun h6 => ⟨(by grind),trivial⟩,
fun h7 => ⟨(by grind),trivial⟩⟩,
fun h8 => ⟨fun h9 => ⟨(by grind),trivial⟩,
fun h10 => ⟨fun g11 => have h11 := of_decide_eq_true g11; ⟨(by exact (cmp_lt ‹_›).symm),trivial⟩,
fun g12 => have h12 := of_decide_eq_false g12; ⟨fun g13 => have h13 := of_decide_eq_true g13; ⟨(by exact (cmp_gt ‹_› ‹_›).symm),trivial⟩,
fun g14 => have h14 := of_decide_eq_false g14; ⟨(by exact (cmp_eq ‹_› ‹_›).symm),trivial⟩⟩⟩⟩⟩)
theorem cmp_good : Good Try.prog 32 cmpC /\ FnOk Try.prog 32 := good_of tok conJ1 (fn := Try.f32) rfl (by decide +kernel) (fun _ => rfl) cmp_keeps
structure UCx where
 m : MS
 a : Int
 b : Int
def dAt (m : MS) (a : Int) : Int := m.dist.getD a.toNat default
def ucC : CT where
 X := UCx
 pre := fun x => 0 <= x.a /\ x.a < x.m.dist.length /\ 0 <= x.b /\ x.b < x.m.dist.length
 args := fun x => [.i .i64 x.a, .i .i64 x.b, .p 100000 0 0]
 g0 := fun x => [(100000, .one .bor [.p 100001 0 0])] ++ msH x.m 100001 .bor
 res := fun x => .i .i64 (cmpI (dAt x.m x.a) (dAt x.m x.b))
 g1 := fun _ => []
def cfgJ2 : Cfg := ⟨T, [], [(32, .one cmpC)], noInv, 30, {}⟩
theorem conJ2 : ConOk Try.prog cfgJ2 := ConL.ok (.cons (ConL.one cmp_good) .nil)
set_option maxRecDepth 100000 in
theorem uc_keeps : Keeps cfgJ2 Try.f31 ucC noIv := Eq.mp (show ((∀ x1 : UCx, (((0 : Int) <= x1.a /\ x1.a < (x1.m.dist.length : Int)/\(0 : Int) <= x1.b /\ x1.b < (x1.m.dist.length : Int))-> ((((0 : Int) <= x1.a)/\(x1.a < (x1.m.dist.length : Int)))/\((0 + Int.toNat x1.a < x1.m.dist.length)/\((((0 : Int) <= x1.b)/\(x1.b < (x1.m.dist.length : Int)))/\((0 + Int.toNat x1.b < x1.m.dist.length)/\(∃ x3 : I2x, (True/\(((x1.m.dist.getD (0 + Int.toNat x1.a) default = x3.a)/\((x1.m.dist.getD (0 + Int.toNat x1.b) default = x3.b)/\True))/\(True/\((cmpI x3.a x3.b = cmpI (dAt x1.m x1.a) (dAt x1.m x1.b))/\True)))))))))))) = (Keeps cfgJ2 Try.f31 ucC noIv) by kernel_rfl) (fun x1 => fun h2 => ⟨⟨(by omega),
(by omega)⟩,
(by omega),
⟨(by omega),
(by omega)⟩,
(by omega),
({ a := List.getD (MS.dist (UCx.m x1)) ((0 : Nat) + Int.toNat (UCx.a x1)) default, b := List.getD (MS.dist (UCx.m x1)) ((0 : Nat) + Int.toNat (UCx.b x1)) default : I2x }),trivial,
⟨rfl,rfl,trivial⟩,trivial,
(by (try simp only [Nat.zero_add]); rfl),trivial⟩)
theorem uc_good : Good Try.prog 31 ucC /\ FnOk Try.prog 31 := good_of tok conJ2 (fn := Try.f31) rfl (by decide +kernel) (fun _ => rfl) uc_keeps
structure SoX where
 m : MS
 l : List Int
structure SoOk (x : SoX) : Prop where
 len : x.l.length <= 12
 rng : ∀ v ∈ x.l, 0 <= v /\ v < x.m.dist.length
def soA : SV := .fn 31 [.p 100001 0 0]
def soH (x : SoX) : List (Nat × Blk) := [(100000, .rows .own k1 x.l.length (encL encI x.l)), (100001, .one .bor [.p 100002 0 0])] ++ msH x.m 100002 .bor
def soR (x : SoX) : List (Nat × Blk) := [(100000, .rows .own k1 x.l.length (encL encI (insF (ltD x.m.dist) x.l)))]
structure JL where
 j : Nat
 l : List Int
structure JLok (x : SoX) (i : Nat) (s : JL) : Prop where
 j : s.j <= i
 len : s.l.length = x.l.length
 rng : ∀ v ∈ s.l, 0 <= v /\ v < x.m.dist.length
 eq : bubF (ltD x.m.dist) s.j s.l = bubF (ltD x.m.dist) i (insAt (ltD x.m.dist) x.l i)
def soI (x : SoX) (id : Nat) : Option Inv := match id with
 | 0 => some { X := Nat, ok := fun i => 1 <= i /\ (i <= x.l.length ∨ i = 1), fr := fun i => [(8, .i .i64 i)], hp := fun i => [(100000, .rows .own k1 x.l.length (encL encI (insAt (ltD x.m.dist) x.l i)))], me := fun i => x.l.length - i,
               inn := fun i id => match id with
                | 2 => some { X := JL, ok := fun s => JLok x i s, fr := fun s => [(9, .i .i64 s.j)], hp := fun s => [(100000, .rows .own k1 x.l.length (encL encI s.l))], me := fun s => s.j }
                | _ => none }
 | _ => none
def soiC : CT where
 X := SoX
 pre := SoOk
 args := fun x => [.sl 100000 0 x.l.length, .i .i64 0, .i .i64 x.l.length, soA]
 g0 := soH
 res := fun _ => .tup []
 g1 := soR
theorem so_start {x : SoX} (h : SoOk x) {i : Nat} (h1 : 1 <= i) (h2 : (i : Int) < x.l.length) : JLok x i ⟨i, insAt (ltD x.m.dist) x.l i⟩ :=
 ⟨Nat.le_refl _, insAt_len _ _ _, fun v hv => h.rng v (insAt_mem _ _ i (by omega) v hv), rfl⟩
theorem JLok.at {x : SoX} {i : Nat} {s : JL} (h : JLok x i s) {k : Nat} (hk : k < x.l.length) : 0 <= s.l.getD k default /\ s.l.getD k default < x.m.dist.length := h.rng _ (getD_in (by rw [h.len]; exact hk))
theorem so_step {x : SoX} {i : Nat} {s : JL} (h : JLok x i s) (hi : (i : Int) < x.l.length) (h0 : 0 < (s.j : Int)) (hc : cmpI (dAt x.m (s.l.getD s.j default)) (dAt x.m (s.l.getD (s.j - 1) default)) < 0) : JLok x i ⟨s.j - 1, swp s.l s.j⟩ := by
 have hj := h.j
 refine ⟨by show s.j - 1 <= i; omega, by show (swp s.l s.j).length = _; rw [swp_len]; exact h.len, fun v hv => h.rng v (swp_mem (by rw [h.len]; omega) hv), ?_⟩
 rw [<- h.eq]
 exact bubF_go (by omega) (decide_eq_true (cmp_neg.1 hc))
theorem so_stop {x : SoX} {i : Nat} {s : JL} (h : JLok x i s) (hi : 1 <= i) (hn : ¬ (0 < (s.j : Int) /\ cmpI (dAt x.m (s.l.getD s.j default)) (dAt x.m (s.l.getD (s.j - 1) default)) < 0)) : s.l = insAt (ltD x.m.dist) x.l (i + 1) := by
 rw [insAt_succ _ _ hi, <- h.eq]
 exact (bubF_stop fun q => hn ⟨q.1, cmp_neg.2 (of_decide_eq_true q.2)⟩).symm
theorem so_end {x : SoX} {i : Nat} (h : 1 <= i /\ (i <= x.l.length ∨ i = 1)) (h2 : ¬ (i : Int) < x.l.length) : insAt (ltD x.m.dist) x.l i = insF (ltD x.m.dist) x.l := by
 unfold insF
 rcases h.2 with q | q
 ·rw [show i = x.l.length by omega]
 ·subst q
  rcases (show x.l.length = 0 ∨ x.l.length = 1 by omega) with e | e <;> rw [e] <;> rfl
def cfgJ3 : Cfg := ⟨T, [], [(31, .one ucC)], noInv, 60, {}⟩
theorem conJ3 : ConOk Try.prog cfgJ3 := ConL.ok (.cons (ConL.one uc_good) .nil)
theorem toNp (j : Nat) : ((j : Int) - 1).toNat = j - 1 := by omega
theorem swp_rows {l : List Int} {j n : Nat} (hn : n = l.length) (h : j < n) (h0 : 0 < (j : Int)) : RowsEq k1 n (setRow (setRow (encL encI l) j 0 [.i (l.getD (j - 1) default)]) (j - 1) 0 [.i (l.getD j default)]) (encL encI (swp l j)) :=
 rowsEq_setOf (rows_setI (by omega)) (by omega) (by rw [List.length_set]; omega) ⟨rfl, trivial⟩
set_option maxRecDepth 100000 in
theorem soi_keeps : Keeps cfgJ3 Try.f48 soiC soI := Eq.mp (show ((∀ x1 : SoX, ((SoOk x1)-> ((((-9223372036854775808 : Int) <= (0 : Int) + 1)/\((0 : Int) + 1 <= (9223372036854775807 : Int)))/\(∃ x3 : Nat, (((((1 : Nat) <= x3)/\(x3 <= x1.l.length ∨ x3 = (1 : Nat)))/\((((0 : Int) + 1 = (x3 : Int))/\(((0 : Int) + 1 = 0 + 1)/\(((0 : Int) = 0)/\((0=0 /\ x1.l.length = x1.l.length)/\(((0 : Int) = 0)/\(((x1.l.length : Int) = (x1.l.length : Int))/\(((0=0 /\ 0=0)/\True)/\True)))))))/\(((RLe x1.l.length x1.l.length)/\(RowsEq [.int .i64] x1.l.length (encL encI x1.l) (encL encI (insAt (ltD x1.m.dist) x1.l x3))))/\(((0=0 /\ 0=0)/\True)/\(((0=0 /\ 0=0)/\((0=0 /\ x1.m.g.es.length = x1.m.g.es.length)/\((0=0 /\ x1.m.g.n = x1.m.g.n)/\((0=0 /\ x1.m.dist.length = x1.m.dist.length)/\((0=0 /\ x1.m.so.length = x1.m.so.length)/\(x1.m.od = x1.m.od/\True))))))/\((RLe 1 1/\(RowsEq [.sl [.int .i64, .int .i64, .int .i64], .sl [.sl [.int .i64]], .sl [.sl [.int .i64]]] 1 (encG x1.m.g) (encG x1.m.g)))/\(((RLe x1.m.g.es.length x1.m.g.es.length)/\(RowsEq [.int .i64] x1.m.g.es.length (encL encI x1.m.ts) (encL encI x1.m.ts)))/\(((RLe x1.m.g.n x1.m.g.n)/\(RowsEq (Kd.bool :: []) x1.m.g.n (encL encBo x1.m.src) (encL encBo x1.m.src)))/\(((RLe x1.m.dist.length x1.m.dist.length)/\(RowsEq [.int .i64] x1.m.dist.length (encL encI x1.m.dist) (encL encI x1.m.dist)))/\(((RLe x1.m.so.length x1.m.so.length)/\(RowsEq [.int .i64] x1.m.so.length (encL encI x1.m.so) (encL encI x1.m.so)))/\True))))))))))/\(∀ x4 : Nat, (((1 : Nat) <= x4/\(x4 <= x1.l.length ∨ x4 = (1 : Nat)))-> (((decide ((x4 : Int) < (x1.l.length : Int)) = true)-> (∃ x7 : JL, (((JLok x1 x4 x7)/\((((x4 : Int) = (x7.j : Int))/\(((x4 : Int) = (x4 : Int))/\((decide ((x4 : Int) < (x1.l.length : Int)) = decide ((x4 : Int) < (x1.l.length : Int)))/\(((x1.l.length : Int) = (x1.l.length : Int))/\(((x4 : Int) = (x4 : Int))/\(((x4 : Int) = (x4 : Int))/\(((0 : Int) + 1 = 0 + 1)/\(((0 : Int) = 0)/\((0=0 /\ x1.l.length = x1.l.length)/\(((0 : Int) = 0)/\(((x1.l.length : Int) = (x1.l.length : Int))/\(((0=0 /\ 0=0)/\True)/\True))))))))))))/\(((RLe x1.l.length x1.l.length)/\(RowsEq [.int .i64] x1.l.length (encL encI (insAt (ltD x1.m.dist) x1.l x4)) (encL encI x7.l)))/\(((0=0 /\ 0=0)/\True)/\(((0=0 /\ 0=0)/\((0=0 /\ x1.m.g.es.length = x1.m.g.es.length)/\((0=0 /\ x1.m.g.n = x1.m.g.n)/\((0=0 /\ x1.m.dist.length = x1.m.dist.length)/\((0=0 /\ x1.m.so.length = x1.m.so.length)/\(x1.m.od = x1.m.od/\True))))))/\((RLe 1 1/\(RowsEq [.sl [.int .i64, .int .i64, .int .i64], .sl [.sl [.int .i64]], .sl [.sl [.int .i64]]] 1 (encG x1.m.g) (encG x1.m.g)))/\(((RLe x1.m.g.es.length x1.m.g.es.length)/\(RowsEq [.int .i64] x1.m.g.es.length (encL encI x1.m.ts) (encL encI x1.m.ts)))/\(((RLe x1.m.g.n x1.m.g.n)/\(RowsEq (Kd.bool :: []) x1.m.g.n (encL encBo x1.m.src) (encL encBo x1.m.src)))/\(((RLe x1.m.dist.length x1.m.dist.length)/\(RowsEq [.int .i64] x1.m.dist.length (encL encI x1.m.dist) (encL encI x1.m.dist)))/\(((RLe x1.m.so.length x1.m.so.length)/\(RowsEq [.int .i64] x1.m.so.length (encL encI x1.m.so) (encL encI x1.m.so)))/\True))))))))))/\(∀ x8 : JL, ((JLok x1 x4 x8)-> (((decide (0 < (x8.j : Int)) = true)-> ((((0 : Int) <= (x8.j : Int))/\((x8.j : Int) < (x1.l.length : Int)))/\((0 + Int.toNat (x8.j : Int) < x1.l.length)/\((((-9223372036854775808 : Int) <= (x8.j : Int) - 1)/\((x8.j : Int) - 1 <= (9223372036854775807 : Int)))/\((((0 : Int) <= (x8.j : Int) - 1)/\((x8.j : Int) - 1 < (x1.l.length : Int)))/\((0 + Int.toNat ((x8.j : Int) - 1) < x1.l.length)/\(∃ x11 : UCx, ((((0 : Int) <= x11.a)/\((x11.a < (x11.m.dist.length : Int))/\(((0 : Int) <= x11.b)/\(x11.b < (x11.m.dist.length : Int)))))/\(((x8.l.getD (0 + Int.toNat (x8.j : Int)) default = x11.a)/\((x8.l.getD (0 + Int.toNat ((x8.j : Int) - 1)) default = x11.b)/\((0=0 /\ 0=0)/\True)))/\((((0=0 /\ 0=0)/\True)/\(((0=0 /\ 0=0)/\((0=0 /\ x1.m.g.es.length = x11.m.g.es.length)/\((0=0 /\ x1.m.g.n = x11.m.g.n)/\((0=0 /\ x1.m.dist.length = x11.m.dist.length)/\((0=0 /\ x1.m.so.length = x11.m.so.length)/\(x1.m.od = x11.m.od/\True))))))/\((RLe 1 1/\(RowsEq [.sl [.int .i64, .int .i64, .int .i64], .sl [.sl [.int .i64]], .sl [.sl [.int .i64]]] 1 (encG x1.m.g) (encG x11.m.g)))/\(((RLe x11.m.g.es.length x1.m.g.es.length)/\(RowsEq [.int .i64] x11.m.g.es.length (encL encI x1.m.ts) (encL encI x11.m.ts)))/\(((RLe x11.m.g.n x1.m.g.n)/\(RowsEq (Kd.bool :: []) x11.m.g.n (encL encBo x1.m.src) (encL encBo x11.m.src)))/\(((RLe x11.m.dist.length x1.m.dist.length)/\(RowsEq [.int .i64] x11.m.dist.length (encL encI x1.m.dist) (encL encI x11.m.dist)))/\(((RLe x11.m.so.length x1.m.so.length)/\(RowsEq [.int .i64] x11.m.so.length (encL encI x1.m.so) (encL encI x11.m.so)))/\True)))))))/\(((decide (cmpI (dAt x11.m x11.a) (dAt x11.m x11.b) < (0 : Int)) = true)-> ((((-9223372036854775808 : Int) <= (x8.j : Int) - 1)/\((x8.j : Int) - 1 <= (9223372036854775807 : Int)))/\((((-9223372036854775808 : Int) <= (x8.j : Int) - 1)/\((x8.j : Int) - 1 <= (9223372036854775807 : Int)))/\((((0 : Int) <= (x8.j : Int) - 1)/\((x8.j : Int) - 1 < (x1.l.length : Int)))/\((0 + Int.toNat ((x8.j : Int) - 1) < x1.l.length)/\((((0 : Int) <= (x8.j : Int))/\((x8.j : Int) < (x1.l.length : Int)))/\((0 + Int.toNat (x8.j : Int) < x1.l.length)/\((((0 : Int) <= (x8.j : Int))/\((x8.j : Int) < (x1.l.length : Int)))/\(((0 + Int.toNat (x8.j : Int) < x1.l.length)/\(True/\True))/\((((0 : Int) <= (x8.j : Int) - 1)/\((x8.j : Int) - 1 < (x1.l.length : Int)))/\(((0 + Int.toNat ((x8.j : Int) - 1) < x1.l.length)/\(True/\True))/\((((-9223372036854775808 : Int) <= (x8.j : Int) - 1)/\((x8.j : Int) - 1 <= (9223372036854775807 : Int)))/\(∃ x13 : JL, ((x13.j < x8.j)/\((JLok x1 x4 x13)/\((((x8.j : Int) - 1 = (x13.j : Int))/\(((x4 : Int) = (x4 : Int))/\((decide ((x4 : Int) < (x1.l.length : Int)) = decide ((x4 : Int) < (x1.l.length : Int)))/\(((x1.l.length : Int) = (x1.l.length : Int))/\(((x4 : Int) = (x4 : Int))/\(((x4 : Int) = (x4 : Int))/\(((0 : Int) + 1 = 0 + 1)/\(((0 : Int) = 0)/\((0=0 /\ x1.l.length = x1.l.length)/\(((0 : Int) = 0)/\(((x1.l.length : Int) = (x1.l.length : Int))/\(((0=0 /\ 0=0)/\True)/\True))))))))))))/\(((RLe x1.l.length x1.l.length)/\(RowsEq [.int .i64] x1.l.length (setRow (setRow (encL encI x8.l) (0 + Int.toNat (x8.j : Int)) 0 (D.i (x8.l.getD (0 + Int.toNat ((x8.j : Int) - 1)) default) :: @List.nil D)) (0 + Int.toNat ((x8.j : Int) - 1)) 0 (D.i (x8.l.getD (0 + Int.toNat (x8.j : Int)) default) :: @List.nil D)) (encL encI x13.l)))/\(((0=0 /\ 0=0)/\True)/\(((0=0 /\ 0=0)/\((0=0 /\ x1.m.g.es.length = x1.m.g.es.length)/\((0=0 /\ x1.m.g.n = x1.m.g.n)/\((0=0 /\ x1.m.dist.length = x1.m.dist.length)/\((0=0 /\ x1.m.so.length = x1.m.so.length)/\(x1.m.od = x1.m.od/\True))))))/\((RLe 1 1/\(RowsEq [.sl [.int .i64, .int .i64, .int .i64], .sl [.sl [.int .i64]], .sl [.sl [.int .i64]]] 1 (encG x1.m.g) (encG x1.m.g)))/\(((RLe x1.m.g.es.length x1.m.g.es.length)/\(RowsEq [.int .i64] x1.m.g.es.length (encL encI x1.m.ts) (encL encI x1.m.ts)))/\(((RLe x1.m.g.n x1.m.g.n)/\(RowsEq (Kd.bool :: []) x1.m.g.n (encL encBo x1.m.src) (encL encBo x1.m.src)))/\(((RLe x1.m.dist.length x1.m.dist.length)/\(RowsEq [.int .i64] x1.m.dist.length (encL encI x1.m.dist) (encL encI x1.m.dist)))/\(((RLe x1.m.so.length x1.m.so.length)/\(RowsEq [.int .i64] x1.m.so.length (encL encI x1.m.so) (encL encI x1.m.so)))/\True))))))))))))))))))))))))/\((decide (cmpI (dAt x11.m x11.a) (dAt x11.m x11.b) < (0 : Int)) = false)-> ((((-9223372036854775808 : Int) <= (x4 : Int) + 1)/\((x4 : Int) + 1 <= (9223372036854775807 : Int)))/\(∃ x15 : Nat, ((x1.l.length - x15 < x1.l.length - x4)/\((((1 : Nat) <= x15)/\(x15 <= x1.l.length ∨ x15 = (1 : Nat)))/\((((x4 : Int) + 1 = (x15 : Int))/\(((0 : Int) + 1 = 0 + 1)/\(((0 : Int) = 0)/\((0=0 /\ x1.l.length = x1.l.length)/\(((0 : Int) = 0)/\(((x1.l.length : Int) = (x1.l.length : Int))/\(((0=0 /\ 0=0)/\True)/\True)))))))/\(((RLe x1.l.length x1.l.length)/\(RowsEq [.int .i64] x1.l.length (encL encI x8.l) (encL encI (insAt (ltD x1.m.dist) x1.l x15))))/\(((0=0 /\ 0=0)/\True)/\(((0=0 /\ 0=0)/\((0=0 /\ x1.m.g.es.length = x1.m.g.es.length)/\((0=0 /\ x1.m.g.n = x1.m.g.n)/\((0=0 /\ x1.m.dist.length = x1.m.dist.length)/\((0=0 /\ x1.m.so.length = x1.m.so.length)/\(x1.m.od = x1.m.od/\True))))))/\((RLe 1 1/\(RowsEq [.sl [.int .i64, .int .i64, .int .i64], .sl [.sl [.int .i64]], .sl [.sl [.int .i64]]] 1 (encG x1.m.g) (encG x1.m.g)))/\(((RLe x1.m.g.es.length x1.m.g.es.length)/\(RowsEq [.int .i64] x1.m.g.es.length (encL encI x1.m.ts) (encL encI x1.m.ts)))/\(((RLe x1.m.g.n x1.m.g.n)/\(RowsEq (Kd.bool :: []) x1.m.g.n (encL encBo x1.m.src) (encL encBo x1.m.src)))/\(((RLe x1.m.dist.length x1.m.dist.length)/\(RowsEq [.int .i64] x1.m.dist.length (encL encI x1.m.dist) (encL encI x1.m.dist)))/\(((RLe x1.m.so.length x1.m.so.length)/\(RowsEq [.int .i64] x1.m.so.length (encL encI x1.m.so) (encL encI x1.m.so)))/\True)))))))))))))))))))))))))/\((decide (0 < (x8.j : Int)) = false)-> ((((-9223372036854775808 : Int) <= (x4 : Int) + 1)/\((x4 : Int) + 1 <= (9223372036854775807 : Int)))/\(∃ x17 : Nat, ((x1.l.length - x17 < x1.l.length - x4)/\((((1 : Nat) <= x17)/\(x17 <= x1.l.length ∨ x17 = (1 : Nat)))/\((((x4 : Int) + 1 = (x17 : Int))/\(((0 : Int) + 1 = 0 + 1)/\(((0 : Int) = 0)/\((0=0 /\ x1.l.length = x1.l.length)/\(((0 : Int) = 0)/\(((x1.l.length : Int) = (x1.l.length : Int))/\(((0=0 /\ 0=0)/\True)/\True)))))))/\(((RLe x1.l.length x1.l.length)/\(RowsEq [.int .i64] x1.l.length (encL encI x8.l) (encL encI (insAt (ltD x1.m.dist) x1.l x17))))/\(((0=0 /\ 0=0)/\True)/\(((0=0 /\ 0=0)/\((0=0 /\ x1.m.g.es.length = x1.m.g.es.length)/\((0=0 /\ x1.m.g.n = x1.m.g.n)/\((0=0 /\ x1.m.dist.length = x1.m.dist.length)/\((0=0 /\ x1.m.so.length = x1.m.so.length)/\(x1.m.od = x1.m.od/\True))))))/\((RLe 1 1/\(RowsEq [.sl [.int .i64, .int .i64, .int .i64], .sl [.sl [.int .i64]], .sl [.sl [.int .i64]]] 1 (encG x1.m.g) (encG x1.m.g)))/\(((RLe x1.m.g.es.length x1.m.g.es.length)/\(RowsEq [.int .i64] x1.m.g.es.length (encL encI x1.m.ts) (encL encI x1.m.ts)))/\(((RLe x1.m.g.n x1.m.g.n)/\(RowsEq (Kd.bool :: []) x1.m.g.n (encL encBo x1.m.src) (encL encBo x1.m.src)))/\(((RLe x1.m.dist.length x1.m.dist.length)/\(RowsEq [.int .i64] x1.m.dist.length (encL encI x1.m.dist) (encL encI x1.m.dist)))/\(((RLe x1.m.so.length x1.m.so.length)/\(RowsEq [.int .i64] x1.m.so.length (encL encI x1.m.so) (encL encI x1.m.so)))/\True))))))))))))))))))))/\((decide ((x4 : Int) < (x1.l.length : Int)) = false)-> (True/\(((RLe x1.l.length x1.l.length)/\(RowsEq [.int .i64] x1.l.length (encL encI (insAt (ltD x1.m.dist) x1.l x4)) (encL encI (insF (ltD x1.m.dist) x1.l))))/\True)))))))))))) = (Keeps cfgJ3 Try.f48 soiC soI) by kernel_rfl) (fun x1 => fun h2 => ⟨⟨(by omega),
(by omega)⟩,
((1 : Nat)),
⟨⟨(by omega),
(by omega)⟩,
⟨(by omega),rfl,rfl,
⟨rfl,rfl⟩,rfl,rfl,
⟨⟨rfl,rfl⟩,trivial⟩,trivial⟩,
⟨⟨Nat.le_refl _⟩,RowsEq.rfl'⟩,
⟨⟨rfl,rfl⟩,trivial⟩,
⟨⟨rfl,rfl⟩,
⟨rfl,rfl⟩,
⟨rfl,rfl⟩,
⟨rfl,rfl⟩,
⟨rfl,rfl⟩,rfl,trivial⟩,
⟨⟨Nat.le_refl _⟩,RowsEq.rfl'⟩,
⟨⟨Nat.le_refl _⟩,RowsEq.rfl'⟩,
⟨⟨Nat.le_refl _⟩,RowsEq.rfl'⟩,
⟨⟨Nat.le_refl _⟩,RowsEq.rfl'⟩,
⟨⟨Nat.le_refl _⟩,RowsEq.rfl'⟩,trivial⟩,
fun x4 => fun h5 => ⟨fun g6 => have h6 := of_decide_eq_true g6; ⟨({ j := x4, l := insAt (ltD (MS.dist (SoX.m x1))) (SoX.l x1) x4 : JL }),
⟨(so_start h2 h5.1 h6),
⟨rfl,rfl,rfl,rfl,rfl,rfl,rfl,rfl,
⟨rfl,rfl⟩,rfl,rfl,
⟨⟨rfl,rfl⟩,trivial⟩,trivial⟩,
⟨⟨Nat.le_refl _⟩,RowsEq.rfl'⟩,
⟨⟨rfl,rfl⟩,trivial⟩,
⟨⟨rfl,rfl⟩,
⟨rfl,rfl⟩,
⟨rfl,rfl⟩,
⟨rfl,rfl⟩,
⟨rfl,rfl⟩,rfl,trivial⟩,
⟨⟨Nat.le_refl _⟩,RowsEq.rfl'⟩,
⟨⟨Nat.le_refl _⟩,RowsEq.rfl'⟩,
⟨⟨Nat.le_refl _⟩,RowsEq.rfl'⟩,
⟨⟨Nat.le_refl _⟩,RowsEq.rfl'⟩,
⟨⟨Nat.le_refl _⟩,RowsEq.rfl'⟩,trivial⟩,
fun x8 => fun h9 => ⟨fun g10 => have h10 := of_decide_eq_true g10; ⟨⟨(by omega),
(by have a := h9.j; have b := h9.len; have c := h2.len; omega)⟩,
(by have a := h9.j; have b := h9.len; have c := h2.len; omega),
⟨(by omega),
(by have a := h9.j; have b := h9.len; have c := h2.len; omega)⟩,
⟨(by omega),
(by have a := h9.j; have b := h9.len; have c := h2.len; omega)⟩,
(by have a := h9.j; have b := h9.len; have c := h2.len; omega),
({ m := SoX.m x1, a := List.getD (JL.l x8) ((0 : Nat) + Int.toNat (↑(JL.j x8) : Int)) default, b := List.getD (JL.l x8) ((0 : Nat) + Int.toNat ((↑(JL.j x8) : Int) - (1 : Int))) default : UCx }),
⟨(by have a := h9.j; have b := h9.len; have q1 := h9.at (k := x8.j) (by omega); have q2 := h9.at (k := x8.j - 1) (by omega); simp only [Nat.zero_add, Int.toNat_natCast, toNp] at *; omega),
(by have a := h9.j; have b := h9.len; have q1 := h9.at (k := x8.j) (by omega); have q2 := h9.at (k := x8.j - 1) (by omega); simp only [Nat.zero_add, Int.toNat_natCast, toNp] at *; omega),
(by have a := h9.j; have b := h9.len; have q1 := h9.at (k := x8.j) (by omega); have q2 := h9.at (k := x8.j - 1) (by omega); simp only [Nat.zero_add, Int.toNat_natCast, toNp] at *; omega),
(by have a := h9.j; have b := h9.len; have q1 := h9.at (k := x8.j) (by omega); have q2 := h9.at (k := x8.j - 1) (by omega); simp only [Nat.zero_add, Int.toNat_natCast, toNp] at *; omega)⟩,
⟨rfl,rfl,
⟨rfl,rfl⟩,trivial⟩,
⟨⟨⟨rfl,rfl⟩,trivial⟩,
⟨⟨rfl,rfl⟩,
⟨rfl,rfl⟩,
⟨rfl,rfl⟩,
⟨rfl,rfl⟩,
⟨rfl,rfl⟩,rfl,trivial⟩,
⟨⟨Nat.le_refl _⟩,RowsEq.rfl'⟩,
⟨⟨Nat.le_refl _⟩,RowsEq.rfl'⟩,
⟨⟨Nat.le_refl _⟩,RowsEq.rfl'⟩,
⟨⟨Nat.le_refl _⟩,RowsEq.rfl'⟩,
⟨⟨Nat.le_refl _⟩,RowsEq.rfl'⟩,trivial⟩,
fun g12 => have h12 := of_decide_eq_true g12; ⟨⟨(by omega),
(by have a := h9.j; have b := h9.len; have c := h2.len; omega)⟩,
⟨(by omega),
(by have a := h9.j; have b := h9.len; have c := h2.len; omega)⟩,
⟨(by omega),
(by have a := h9.j; have b := h9.len; have c := h2.len; omega)⟩,
(by have a := h9.j; have b := h9.len; have c := h2.len; omega),
⟨(by omega),
(by have a := h9.j; have b := h9.len; have c := h2.len; omega)⟩,
(by have a := h9.j; have b := h9.len; have c := h2.len; omega),
⟨(by omega),
(by have a := h9.j; have b := h9.len; have c := h2.len; omega)⟩,
⟨(by have a := h9.j; have b := h9.len; have c := h2.len; omega),trivial,trivial⟩,
⟨(by omega),
(by have a := h9.j; have b := h9.len; have c := h2.len; omega)⟩,
⟨(by have a := h9.j; have b := h9.len; have c := h2.len; omega),trivial,trivial⟩,
⟨(by omega),
(by have a := h9.j; have b := h9.len; have c := h2.len; omega)⟩,
({ j := JL.j x8 - (1 : Nat), l := swp (JL.l x8) (JL.j x8) : JL }),
(by (try dsimp only at *); omega),
(by simp only [Nat.zero_add, Int.toNat_natCast, toNp] at *; exact so_step h9 h6 h10 h12),
⟨(by (try dsimp only at *); omega),rfl,rfl,rfl,rfl,rfl,rfl,rfl,
⟨rfl,rfl⟩,rfl,rfl,
⟨⟨rfl,rfl⟩,trivial⟩,trivial⟩,
⟨⟨Nat.le_refl _⟩,
(by have a := h9.j; have b := h9.len; simp only [Nat.zero_add, Int.toNat_natCast, toNp] at *; exact swp_rows b.symm (by omega) h10)⟩,
⟨⟨rfl,rfl⟩,trivial⟩,
⟨⟨rfl,rfl⟩,
⟨rfl,rfl⟩,
⟨rfl,rfl⟩,
⟨rfl,rfl⟩,
⟨rfl,rfl⟩,rfl,trivial⟩,
⟨⟨Nat.le_refl _⟩,RowsEq.rfl'⟩,
⟨⟨Nat.le_refl _⟩,RowsEq.rfl'⟩,
⟨⟨Nat.le_refl _⟩,RowsEq.rfl'⟩,
⟨⟨Nat.le_refl _⟩,RowsEq.rfl'⟩,
⟨⟨Nat.le_refl _⟩,RowsEq.rfl'⟩,trivial⟩,
fun g14 => have h14 := of_decide_eq_false g14; ⟨⟨(by omega),
(by have a := h9.j; have b := h9.len; have c := h2.len; omega)⟩,
(x4 + (1 : Nat)),
(by omega),
⟨(by omega),
(by omega)⟩,
⟨(by omega),rfl,rfl,
⟨rfl,rfl⟩,rfl,rfl,
⟨⟨rfl,rfl⟩,trivial⟩,trivial⟩,
⟨⟨Nat.le_refl _⟩,
(by simp only [Nat.zero_add, Int.toNat_natCast, toNp] at *; rw [<- so_stop h9 h5.1 (fun q => h14 q.2)]; exact RowsEq.rfl')⟩,
⟨⟨rfl,rfl⟩,trivial⟩,
⟨⟨rfl,rfl⟩,
⟨rfl,rfl⟩,
⟨rfl,rfl⟩,
⟨rfl,rfl⟩,
⟨rfl,rfl⟩,rfl,trivial⟩,
⟨⟨Nat.le_refl _⟩,RowsEq.rfl'⟩,
⟨⟨Nat.le_refl _⟩,RowsEq.rfl'⟩,
⟨⟨Nat.le_refl _⟩,RowsEq.rfl'⟩,
⟨⟨Nat.le_refl _⟩,RowsEq.rfl'⟩,
⟨⟨Nat.le_refl _⟩,RowsEq.rfl'⟩,trivial⟩⟩,
fun g16 => have h16 := of_decide_eq_false g16; ⟨⟨(by omega),
(by have a := h9.j; have b := h9.len; have c := h2.len; omega)⟩,
(x4 + (1 : Nat)),
(by omega),
⟨(by omega),
(by omega)⟩,
⟨(by omega),rfl,rfl,
⟨rfl,rfl⟩,rfl,rfl,
⟨⟨rfl,rfl⟩,trivial⟩,trivial⟩,
⟨⟨Nat.le_refl _⟩,
(by rw [<- so_stop h9 h5.1 (fun q => h16 q.1)]; exact RowsEq.rfl')⟩,
⟨⟨rfl,rfl⟩,trivial⟩,
⟨⟨rfl,rfl⟩,
⟨rfl,rfl⟩,
⟨rfl,rfl⟩,
⟨rfl,rfl⟩,
⟨rfl,rfl⟩,rfl,trivial⟩,
⟨⟨Nat.le_refl _⟩,RowsEq.rfl'⟩,
⟨⟨Nat.le_refl _⟩,RowsEq.rfl'⟩,
⟨⟨Nat.le_refl _⟩,RowsEq.rfl'⟩,
⟨⟨Nat.le_refl _⟩,RowsEq.rfl'⟩,
⟨⟨Nat.le_refl _⟩,RowsEq.rfl'⟩,trivial⟩⟩⟩,
fun g18 => have h18 := of_decide_eq_false g18; ⟨trivial,
⟨⟨Nat.le_refl _⟩,
(by rw [so_end h5 h18]; exact RowsEq.rfl')⟩,trivial⟩⟩⟩)
theorem soi_good : Good Try.prog 48 soiC /\ FnOk Try.prog 48 := good_of tok conJ3 (fn := Try.f48) rfl (by decide +kernel) (fun _ => rfl) soi_keeps
def soPI (x : SoX) (id : Nat) : Option Inv := match id with
 | 0 => some { X := Unit, ok := fun _ => True, fr := fun _ => [(1, .i .i64 0), (2, .i .i64 x.l.length), (0, .sl 100000 0 x.l.length)], hp := fun _ => [], me := fun _ => 0 }
 | _ => none
def sopC : CT where
 X := SoX
 pre := SoOk
 args := fun x => [.sl 100000 0 x.l.length, .i .i64 0, .i .i64 x.l.length, .u, soA]
 g0 := soH
 res := fun _ => .tup []
 g1 := soR
def cfgJ3p : Cfg := ⟨T, [], [(48, .one soiC)], noInv, 10, {}⟩
theorem conJ3p : ConOk Try.prog cfgJ3p := ConL.ok (.cons (ConL.one soi_good) .nil)
set_option maxRecDepth 100000 in
theorem sop_keeps : Keeps cfgJ3p Try.f44 sopC soPI := Eq.mp (show ((∀ x1 : SoX, ((SoOk x1)-> (∃ x3 : Unit, ((True/\((((0 : Int) = 0)/\(((x1.l.length : Int) = (x1.l.length : Int))/\((0=0 /\ x1.l.length = x1.l.length)/\(((0=0 /\ 0=0)/\True)/\True))))/\(((RLe x1.l.length x1.l.length)/\(RowsEq [.int .i64] x1.l.length (encL encI x1.l) (encL encI x1.l)))/\(((0=0 /\ 0=0)/\True)/\(((0=0 /\ 0=0)/\((0=0 /\ x1.m.g.es.length = x1.m.g.es.length)/\((0=0 /\ x1.m.g.n = x1.m.g.n)/\((0=0 /\ x1.m.dist.length = x1.m.dist.length)/\((0=0 /\ x1.m.so.length = x1.m.so.length)/\(x1.m.od = x1.m.od/\True))))))/\((RLe 1 1/\(RowsEq [.sl [.int .i64, .int .i64, .int .i64], .sl [.sl [.int .i64]], .sl [.sl [.int .i64]]] 1 (encG x1.m.g) (encG x1.m.g)))/\(((RLe x1.m.g.es.length x1.m.g.es.length)/\(RowsEq [.int .i64] x1.m.g.es.length (encL encI x1.m.ts) (encL encI x1.m.ts)))/\(((RLe x1.m.g.n x1.m.g.n)/\(RowsEq (Kd.bool :: []) x1.m.g.n (encL encBo x1.m.src) (encL encBo x1.m.src)))/\(((RLe x1.m.dist.length x1.m.dist.length)/\(RowsEq [.int .i64] x1.m.dist.length (encL encI x1.m.dist) (encL encI x1.m.dist)))/\(((RLe x1.m.so.length x1.m.so.length)/\(RowsEq [.int .i64] x1.m.so.length (encL encI x1.m.so) (encL encI x1.m.so)))/\True))))))))))/\(∀ x4 : Unit, (True -> ((((-9223372036854775808 : Int) <= (x1.l.length : Int) - 0)/\((x1.l.length : Int) - 0 <= (9223372036854775807 : Int)))/\(((decide ((x1.l.length : Int) - 0 <= (12 : Int)) = true)-> (∃ x7 : SoX, ((SoOk x7)/\(((0=0 /\ x1.l.length = x7.l.length)/\(((0 : Int) = 0)/\(((x1.l.length : Int) = (x7.l.length : Int))/\(((0=0 /\ 0=0)/\True)/\True))))/\((((RLe x7.l.length x1.l.length)/\(RowsEq [.int .i64] x7.l.length (encL encI x1.l) (encL encI x7.l)))/\(((0=0 /\ 0=0)/\True)/\(((0=0 /\ 0=0)/\((0=0 /\ x1.m.g.es.length = x7.m.g.es.length)/\((0=0 /\ x1.m.g.n = x7.m.g.n)/\((0=0 /\ x1.m.dist.length = x7.m.dist.length)/\((0=0 /\ x1.m.so.length = x7.m.so.length)/\(x1.m.od = x7.m.od/\True))))))/\((RLe 1 1/\(RowsEq [.sl [.int .i64, .int .i64, .int .i64], .sl [.sl [.int .i64]], .sl [.sl [.int .i64]]] 1 (encG x1.m.g) (encG x7.m.g)))/\(((RLe x7.m.g.es.length x1.m.g.es.length)/\(RowsEq [.int .i64] x7.m.g.es.length (encL encI x1.m.ts) (encL encI x7.m.ts)))/\(((RLe x7.m.g.n x1.m.g.n)/\(RowsEq (Kd.bool :: []) x7.m.g.n (encL encBo x1.m.src) (encL encBo x7.m.src)))/\(((RLe x7.m.dist.length x1.m.dist.length)/\(RowsEq [.int .i64] x7.m.dist.length (encL encI x1.m.dist) (encL encI x7.m.dist)))/\(((RLe x7.m.so.length x1.m.so.length)/\(RowsEq [.int .i64] x7.m.so.length (encL encI x1.m.so) (encL encI x7.m.so)))/\True))))))))/\(True/\(((RLe x1.l.length x7.l.length)/\(RowsEq [.int .i64] x1.l.length (encL encI (insF (ltD x7.m.dist) x7.l)) (encL encI (insF (ltD x1.m.dist) x1.l))))/\True)))))))/\((decide ((x1.l.length : Int) - 0 <= (12 : Int)) = false)-> (Stuck 6 (dN (Oper.dst (Oper.mk (some 32) (Op.binOp BinOp.eql 3 (Operand.tmp 31) (Operand.const (Value.int .i64 (0 : Int))) 3) 4 ("zsortanyfunc.go:78") (List.toArray ((Edge.mk 0 Ground.data) :: @List.nil Edge)) none)))))))))))))) = (Keeps cfgJ3p Try.f44 sopC soPI) by kernel_rfl) (fun x1 => fun h2 => ⟨(default),
⟨trivial,
⟨rfl,rfl,
⟨rfl,rfl⟩,
⟨⟨rfl,rfl⟩,trivial⟩,trivial⟩,
⟨⟨Nat.le_refl _⟩,RowsEq.rfl'⟩,
⟨⟨rfl,rfl⟩,trivial⟩,
⟨⟨rfl,rfl⟩,
⟨rfl,rfl⟩,
⟨rfl,rfl⟩,
⟨rfl,rfl⟩,
⟨rfl,rfl⟩,rfl,trivial⟩,
⟨⟨Nat.le_refl _⟩,RowsEq.rfl'⟩,
⟨⟨Nat.le_refl _⟩,RowsEq.rfl'⟩,
⟨⟨Nat.le_refl _⟩,RowsEq.rfl'⟩,
⟨⟨Nat.le_refl _⟩,RowsEq.rfl'⟩,
⟨⟨Nat.le_refl _⟩,RowsEq.rfl'⟩,trivial⟩,
fun x4 => fun h5 => ⟨⟨(by omega),
(by have := h2.len; omega)⟩,
fun g6 => have h6 := of_decide_eq_true g6; ⟨(x1),
(by omega),
⟨⟨rfl,rfl⟩,rfl,rfl,
⟨⟨rfl,rfl⟩,trivial⟩,trivial⟩,
⟨⟨⟨Nat.le_refl _⟩,RowsEq.rfl'⟩,
⟨⟨rfl,rfl⟩,trivial⟩,
⟨⟨rfl,rfl⟩,
⟨rfl,rfl⟩,
⟨rfl,rfl⟩,
⟨rfl,rfl⟩,
⟨rfl,rfl⟩,rfl,trivial⟩,
⟨⟨Nat.le_refl _⟩,RowsEq.rfl'⟩,
⟨⟨Nat.le_refl _⟩,RowsEq.rfl'⟩,
⟨⟨Nat.le_refl _⟩,RowsEq.rfl'⟩,
⟨⟨Nat.le_refl _⟩,RowsEq.rfl'⟩,
⟨⟨Nat.le_refl _⟩,RowsEq.rfl'⟩,trivial⟩,trivial,
⟨⟨Nat.le_refl _⟩,RowsEq.rfl'⟩,trivial⟩,
fun g8 => have h8 := of_decide_eq_false g8; (by have := h2.len; omega)⟩⟩)
theorem sop_good : Good Try.prog 44 sopC /\ FnOk Try.prog 44 := good_of tok conJ3p (fn := Try.f44) rfl (by decide +kernel) (fun _ => rfl) sop_keeps
def cfgJ3l : Cfg := ⟨T, [], [(57, .one len64C)], noInv, 10, {}⟩
theorem conJ3l : ConOk Try.prog cfgJ3l := ConL.ok (.cons (ConL.one len64_good) .nil)
set_option maxRecDepth 100000 in
theorem blen_keeps : Keeps cfgJ3l Try.f45 len64C noIv := Eq.mp (show ((∀ x1 : Nat, ((x1 <= (12 : Nat))-> (∃ x3 : Nat, ((x3 <= (12 : Nat))/\((((x1 : Int) = (x3 : Int))/\True)/\(True/\(True/\True)))))))) = (Keeps cfgJ3l Try.f45 len64C noIv) by kernel_rfl) (fun x1 => fun h2 => ⟨(x1),
(by omega),
⟨rfl,trivial⟩,trivial,trivial,trivial⟩)
theorem blen_good : Good Try.prog 45 len64C /\ FnOk Try.prog 45 := good_of tok conJ3l (fn := Try.f45) rfl (by decide +kernel) (fun _ => rfl) blen_keeps
def sofC : CT where
 X := SoX
 pre := SoOk
 args := fun x => [.sl 100000 0 x.l.length, soA]
 g0 := soH
 res := fun _ => .tup []
 g1 := soR
def cfgJ3f : Cfg := ⟨T, [], [(45, .one len64C), (44, .one sopC)], noInv, 20, {}⟩
theorem conJ3f : ConOk Try.prog cfgJ3f := ConL.ok (.cons (ConL.one blen_good) (.cons (ConL.one sop_good) .nil))
set_option maxRecDepth 100000 in
theorem sof_keeps : Keeps cfgJ3f Try.f30 sofC noIv := Eq.mp (show ((∀ x1 : SoX, ((SoOk x1)-> ((((0 : Int) <= (x1.l.length : Int))/\((x1.l.length : Int) <= (18446744073709551615 : Int)))/\(∃ x3 : Nat, ((x3 <= (12 : Nat))/\((((x1.l.length : Int) = (x3 : Int))/\True)/\(True/\(∃ x4 : SoX, ((SoOk x4)/\(((0=0 /\ x1.l.length = x4.l.length)/\(((0 : Int) = 0)/\(((x1.l.length : Int) = (x4.l.length : Int))/\(True/\(((0=0 /\ 0=0)/\True)/\True)))))/\((((RLe x4.l.length x1.l.length)/\(RowsEq [.int .i64] x4.l.length (encL encI x1.l) (encL encI x4.l)))/\(((0=0 /\ 0=0)/\True)/\(((0=0 /\ 0=0)/\((0=0 /\ x1.m.g.es.length = x4.m.g.es.length)/\((0=0 /\ x1.m.g.n = x4.m.g.n)/\((0=0 /\ x1.m.dist.length = x4.m.dist.length)/\((0=0 /\ x1.m.so.length = x4.m.so.length)/\(x1.m.od = x4.m.od/\True))))))/\((RLe 1 1/\(RowsEq [.sl [.int .i64, .int .i64, .int .i64], .sl [.sl [.int .i64]], .sl [.sl [.int .i64]]] 1 (encG x1.m.g) (encG x4.m.g)))/\(((RLe x4.m.g.es.length x1.m.g.es.length)/\(RowsEq [.int .i64] x4.m.g.es.length (encL encI x1.m.ts) (encL encI x4.m.ts)))/\(((RLe x4.m.g.n x1.m.g.n)/\(RowsEq (Kd.bool :: []) x4.m.g.n (encL encBo x1.m.src) (encL encBo x4.m.src)))/\(((RLe x4.m.dist.length x1.m.dist.length)/\(RowsEq [.int .i64] x4.m.dist.length (encL encI x1.m.dist) (encL encI x4.m.dist)))/\(((RLe x4.m.so.length x1.m.so.length)/\(RowsEq [.int .i64] x4.m.so.length (encL encI x1.m.so) (encL encI x4.m.so)))/\True))))))))/\(True/\(((RLe x1.l.length x4.l.length)/\(RowsEq [.int .i64] x1.l.length (encL encI (insF (ltD x4.m.dist) x4.l)) (encL encI (insF (ltD x1.m.dist) x1.l))))/\True)))))))))))))) = (Keeps cfgJ3f Try.f30 sofC noIv) by kernel_rfl) (fun x1 => fun h2 => ⟨⟨(by omega),
(by have := h2.len; omega)⟩,
(List.length (SoX.l x1)),
(by have := h2.len; omega),
⟨rfl,trivial⟩,trivial,
(x1),
(by omega),
⟨⟨rfl,rfl⟩,rfl,rfl,trivial,
⟨⟨rfl,rfl⟩,trivial⟩,trivial⟩,
⟨⟨⟨Nat.le_refl _⟩,RowsEq.rfl'⟩,
⟨⟨rfl,rfl⟩,trivial⟩,
⟨⟨rfl,rfl⟩,
⟨rfl,rfl⟩,
⟨rfl,rfl⟩,
⟨rfl,rfl⟩,
⟨rfl,rfl⟩,rfl,trivial⟩,
⟨⟨Nat.le_refl _⟩,RowsEq.rfl'⟩,
⟨⟨Nat.le_refl _⟩,RowsEq.rfl'⟩,
⟨⟨Nat.le_refl _⟩,RowsEq.rfl'⟩,
⟨⟨Nat.le_refl _⟩,RowsEq.rfl'⟩,
⟨⟨Nat.le_refl _⟩,RowsEq.rfl'⟩,trivial⟩,trivial,
⟨⟨Nat.le_refl _⟩,RowsEq.rfl'⟩,trivial⟩)
theorem sof_good : Good Try.prog 30 sofC /\ FnOk Try.prog 30 := good_of tok conJ3f (fn := Try.f30) rfl (by decide +kernel) (fun _ => rfl) sof_keeps
end Go.Sym