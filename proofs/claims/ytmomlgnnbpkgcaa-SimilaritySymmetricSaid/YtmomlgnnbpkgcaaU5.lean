import Derived.Test.YtmomlgnnbpkgcaaU4
import Derived.Test.YtmomlgnnbpkgcaaR4
import Derived.Test.YtmomlgnnbpkgcaaXD
namespace Go.Sym
set_option linter.unusedVariables false
set_option linter.unusedSimpArgs false
open Go.Proofs
set_option maxHeartbeats 4000000
structure Cal where
 call : Int
 inc : Int
 urg : Int
 code : ByteArray
 nodes : List Int
 dis : Int
 since : Int
 closed : Bool
def calA (t : Cal) (l : Nat) : SV := .agg [.i .i64 t.call, .i .i64 t.inc, .i .i64 t.urg, .s t.code, .sl l 0 t.nodes.length, .i .i64 t.dis, .i .i64 t.since, .b t.closed]
def calH (t : Cal) (l : Nat) : List (Nat × Blk) := [(l, .rows .bor k1 t.nodes.length (encL encI t.nodes))]
def ofT (t : Cal) : Inc := ⟨0, 0, t.code, t.nodes, 0, t.since, [], [], 0, false⟩
def nearB (g : Gr) (ts : List Int) (x y : Inc) (near win : Int) : Bool := kin x.code y.code && decide (apart x.since y.since <= win) && wthin (gapP g ts x.nodes y.nodes) near
def simB (g : Gr) (ts : List Int) (x y : Inc) (near win : Int) : Bool := opn x && nearB g ts x y near win
structure SIx where
 g : Gr
 ts : List Int
 x : Inc
 t : Cal
 near : Int
 win : Int
structure SIok (x : SIx) : Prop where
 g : GOk x.g
 n : x.g.n <= 12
 xn : x.x.nodes.length <= 1048576
 tn : x.t.nodes.length <= 1048576
 xc : x.x.code.size <= 1073741824
 tc : x.t.code.size <= 1073741824
def simC : CT where
 X := SIx
 pre := SIok
 args := fun x => [.p 100000 0 0, .sl 100001 0 x.ts.length, incA x.x 100002 100003 100004, calA x.t 100005, .i .i64 x.near, .i .i64 x.win]
 g0 := fun x => graphH x.g 100000 ++ [(100001, .rows .bor k1 x.ts.length (encL encI x.ts))] ++ incH x.x 100002 100003 100004 ++ calH x.t 100005
 res := fun x => .b (simB x.g x.ts x.x (ofT x.t) x.near x.win)
 g1 := fun _ => []
def cfgUb : Cfg := ⟨T, [], [(30, .one openC), (25, .one kinC), (31, .one stimeC), (11, .one gapC), (32, .one withinC)], noInv, 20, {}⟩
theorem conUb : ConOk Try.prog cfgUb := ConL.ok (.cons (ConL.one open_good) (.cons (ConL.one zsame_good) (.cons (ConL.one stime_good) (.cons (ConL.one gap_good) (.cons (ConL.one zwithin_good) .nil)))))
theorem sim_3 {x : SIx} (h : ¬ apart x.x.since x.t.since <= x.win) : false = simB x.g x.ts x.x (ofT x.t) x.near x.win := by unfold simB nearB; simp [ofT, h]
set_option maxRecDepth 100000 in
theorem sim_keeps : Keeps cfgUb Try.f15 simC noIv := Eq.mp (show ((∀ x1 : SIx, ((SIok x1)-> (∃ x3 : Inc, (True/\(((x1.x.id = x3.id/\(x1.x.urg = x3.urg/\(x1.x.code = x3.code/\((0=0 /\ x1.x.nodes.length = x3.nodes.length)/\(x1.x.dis = x3.dis/\(x1.x.since = x3.since/\((0=0 /\ x1.x.calls.length = x3.calls.length)/\((0=0 /\ x1.x.units.length = x3.units.length)/\(x1.x.merged = x3.merged/\(x1.x.closed = x3.closed/\True))))))))))/\True)/\((((RLe x3.nodes.length x1.x.nodes.length)/\(RowsEq [.int .i64] x3.nodes.length (encL encI x1.x.nodes) (encL encI x3.nodes)))/\(((RLe x3.calls.length x1.x.calls.length)/\(RowsEq [.int .i64] x3.calls.length (encL encI x1.x.calls) (encL encI x3.calls)))/\(((RLe x3.units.length x1.x.units.length)/\(RowsEq [.int .i64] x3.units.length (encL encI x1.x.units) (encL encI x3.units)))/\True)))/\((((!opn x3) = false)-> (∃ x5 : SSx, (((ByteArray.size x5.a <= (1073741824 : Nat))/\(ByteArray.size x5.b <= (1073741824 : Nat)))/\((x1.x.code = x5.a/\(x1.t.code = x5.b/\True))/\(True/\((((!kin x5.a x5.b) = false)-> (∃ x7 : TWx, (True/\((x1.x.since = x7.a/\(x1.t.since = x7.b/\(x1.win = x7.w/\True)))/\(True/\((((!decide (apart x7.a x7.b <= x7.w)) = true)-> ((false = simB x1.g x1.ts x1.x (ofT x1.t) x1.near x1.win)/\True))/\(((!decide (apart x7.a x7.b <= x7.w)) = false)-> (∃ x10 : GAx, ((GAok x10)/\(((0=0 /\ 0=0)/\((0=0 /\ x1.ts.length = x10.ts.length)/\((0=0 /\ x1.x.nodes.length = x10.a.length)/\((0=0 /\ x1.t.nodes.length = x10.b.length)/\True))))/\(((RLe 1 1/\(RowsEq [.sl [.int .i64, .int .i64, .int .i64], .sl [.sl [.int .i64]], .sl [.sl [.int .i64]]] 1 (encG x1.g) (encG x10.g)))/\(((RLe x10.ts.length x1.ts.length)/\(RowsEq [.int .i64] x10.ts.length (encL encI x1.ts) (encL encI x10.ts)))/\(((RLe x10.a.length x1.x.nodes.length)/\(RowsEq [.int .i64] x10.a.length (encL encI x1.x.nodes) (encL encI x10.a)))/\(((RLe x10.b.length x1.t.nodes.length)/\(RowsEq [.int .i64] x10.b.length (encL encI x1.t.nodes) (encL encI x10.b)))/\True))))/\(∃ x11 : IIx, (True/\(((gapP x10.g x10.ts x10.a x10.b = x11.a)/\(x1.near = x11.b/\True))/\(True/\((wthin x11.a x11.b = simB x1.g x1.ts x1.x (ofT x1.t) x1.near x1.win)/\True))))))))))))))))/\(((!kin x5.a x5.b) = true)-> ((false = simB x1.g x1.ts x1.x (ofT x1.t) x1.near x1.win)/\True))))))))/\(((!opn x3) = true)-> ((false = simB x1.g x1.ts x1.x (ofT x1.t) x1.near x1.win)/\True)))))))))) = (Keeps cfgUb Try.f15 simC noIv) by kernel_rfl) (fun x1 => fun h2 => ⟨(SIx.x x1),trivial,
⟨⟨rfl,rfl,rfl,
⟨rfl,rfl⟩,rfl,rfl,
⟨rfl,rfl⟩,
⟨rfl,rfl⟩,rfl,rfl,trivial⟩,trivial⟩,
⟨⟨⟨Nat.le_refl _⟩,RowsEq.rfl'⟩,
⟨⟨Nat.le_refl _⟩,RowsEq.rfl'⟩,
⟨⟨Nat.le_refl _⟩,RowsEq.rfl'⟩,trivial⟩,
fun h4 => ⟨({ a := Inc.code (SIx.x x1), b := Cal.code (SIx.t x1) : SSx }),
⟨(by (try dsimp only at *); exact h2.xc),
(by (try dsimp only at *); exact h2.tc)⟩,
⟨rfl,rfl,trivial⟩,trivial,
fun h6 => ⟨({ a := Inc.since (SIx.x x1), b := Cal.since (SIx.t x1), w := SIx.win x1 : TWx }),trivial,
⟨rfl,rfl,rfl,trivial⟩,trivial,
fun g8 => have h8 := of_not_decide_true g8; ⟨(by (try dsimp only at *); exact sim_3 (x := x1) ‹_›),trivial⟩,
fun g9 => have h9 := of_not_decide_false g9; ⟨({ g := SIx.g x1, ts := SIx.ts x1, a := Inc.nodes (SIx.x x1), b := Cal.nodes (SIx.t x1) : GAx }),
(by (try dsimp only at *); exact ⟨h2.g, h2.n, h2.xn, h2.tn⟩),
⟨⟨rfl,rfl⟩,
⟨rfl,rfl⟩,
⟨rfl,rfl⟩,
⟨rfl,rfl⟩,trivial⟩,
⟨⟨⟨Nat.le_refl _⟩,RowsEq.rfl'⟩,
⟨⟨Nat.le_refl _⟩,RowsEq.rfl'⟩,
⟨⟨Nat.le_refl _⟩,RowsEq.rfl'⟩,
⟨⟨Nat.le_refl _⟩,RowsEq.rfl'⟩,trivial⟩,
({ a := gapP (SIx.g x1) (SIx.ts x1) (Inc.nodes (SIx.x x1)) (Cal.nodes (SIx.t x1)), b := SIx.near x1 : IIx }),trivial,
⟨rfl,rfl,trivial⟩,trivial,
(by (try dsimp only at *); (simp_all [simB, nearB, ofT])),trivial⟩⟩,
fun h12 => ⟨(by (try dsimp only at *); (simp_all [simB, nearB, ofT])),trivial⟩⟩,
fun h13 => ⟨(by (try dsimp only at *); (simp_all [simB, nearB, ofT])),trivial⟩⟩)
theorem sim_good : Good Try.prog 15 simC /\ FnOk Try.prog 15 := good_of tok conUb (fn := Try.f15) rfl (by decide +kernel) (fun _ => rfl) sim_keeps
def ofC : CT where
 X := Cal
 pre := fun _ => True
 args := fun t => [calA t 100000]
 g0 := fun t => calH t 100000
 res := fun t => .agg [.i .i64 0, .i .i64 0, .s t.code, .sl 100000 0 t.nodes.length, .i .i64 0, .i .i64 t.since, .ns, .ns, .i .i64 0, .bt false]
 g1 := fun _ => []
set_option maxRecDepth 100000 in
theorem of_keeps : Keeps cfgN0 Try.f18 ofC noIv := Eq.mp (show ((∀ x1 : Cal, (True -> ((((0 : Int) = 0)/\(((0 : Int) = 0)/\(x1.code = x1.code/\((0=0 /\ x1.nodes.length = x1.nodes.length)/\(((0 : Int) = 0)/\(x1.since = x1.since/\(True/\(True/\(((0 : Int) = 0)/\(false = false/\True))))))))))/\True)))) = (Keeps cfgN0 Try.f18 ofC noIv) by kernel_rfl) (fun x1 => fun h2 => ⟨⟨rfl,rfl,rfl,
⟨rfl,rfl⟩,rfl,rfl,trivial,trivial,rfl,rfl,trivial⟩,trivial⟩)
theorem xof_good : Good Try.prog 18 ofC /\ FnOk Try.prog 18 := good_of tok conN0 (fn := Try.f18) rfl (by decide +kernel) (fun _ => rfl) of_keeps
def minK (n : Nat) (D l : List Int) (m : Int) (k : Nat) : Int := minN n (atI D) (l.take k) m
theorem minK_succ {n : Nat} {D l : List Int} {m : Int} {k : Nat} (hk : k < l.length) : minK n D l m (k + 1) = if 0 <= l.getD k default /\ l.getD k default < n then min (minK n D l m k) (D.getD (l.getD k default).toNat default) else minK n D l m k := by
 unfold minK minN; rw [take_succ_getD (d := default) hk, List.foldl_append]; rfl
theorem minK_full {n : Nat} {D l : List Int} {m : Int} {k : Nat} (h1 : k <= l.length) (h2 : ¬ (k : Int) < l.length) : minK n D l m k = minN n (atI D) l m := by
 unfold minK; rw [List.take_of_length_le (by omega)]
def qgapC : CT where
 X := GAx
 pre := GAok
 args := fun x => [.agg [.i .i64 x.g.n, .sl 100000 0 x.g.es.length], .sl 100001 0 x.ts.length, .sl 100002 0 x.a.length, .sl 100003 0 x.b.length]
 g0 := fun x => [(100000, .rows .bor kE x.g.es.length (encL encE x.g.es)), (100001, .rows .bor k1 x.ts.length (encL encI x.ts)), (100002, .rows .bor k1 x.a.length (encL encI x.a)), (100003, .rows .bor k1 x.b.length (encL encI x.b))]
 res := fun x => .i .i64 (gapP x.g x.ts x.a x.b)
 g1 := fun _ => []
def qgapI (x : GAx) (id : Nat) : Option Inv := match id with
 | 0 => some { X := Nat, ok := fun k => k <= x.b.length, fr := fun k => [(12, .i .i64 k), (11, .i .i64 (minK x.g.n (distG x.g x.ts x.a true) x.b 4611686018427387904 k))], hp := fun _ => [], me := fun k => x.b.length - k }
 | 2 => some { X := Nat, ok := fun k => k <= x.a.length, fr := fun k => [(13, .i .i64 k), (11, .i .i64 (minK x.g.n (distG x.g x.ts x.b true) x.a (minN x.g.n (atI (distG x.g x.ts x.a true)) x.b 4611686018427387904) k))], hp := fun _ => [], me := fun k => x.a.length - k }
 | _ => none
def cfgUc : Cfg := ⟨T, [], [(28, .one qfromC), (29, .one neverC0)], noInv, 20, {}⟩
theorem conUc : ConOk Try.prog cfgUc := ConL.ok (.cons (ConL.one qfrom_good) (.cons (ConL.one xnever_good) .nil))
set_option maxRecDepth 100000 in
theorem qgap_keeps : Keeps cfgUc Try.f13 qgapC qgapI := Eq.mp (show ((∀ x1 : GAx, ((GAok x1)-> (∃ x3 : FX, ((FXok x3)/\(((((x1.g.n : Int) = (x3.g.n : Int))/\((0=0 /\ x1.g.es.length = x3.g.es.length)/\True))/\((0=0 /\ x1.ts.length = x3.ts.length)/\((0=0 /\ x1.a.length = x3.src.length)/\True)))/\((((RLe x3.g.es.length x1.g.es.length)/\(RowsEq [.int .i64, .int .i64, .int .i64] x3.g.es.length (encL encE x1.g.es) (encL encE x3.g.es)))/\(((RLe x3.ts.length x1.ts.length)/\(RowsEq [.int .i64] x3.ts.length (encL encI x1.ts) (encL encI x3.ts)))/\(((RLe x3.src.length x1.a.length)/\(RowsEq [.int .i64] x3.src.length (encL encI x1.a) (encL encI x3.src)))/\True)))/\(∃ x4 : FX, ((FXok x4)/\(((((x1.g.n : Int) = (x4.g.n : Int))/\((0=0 /\ x1.g.es.length = x4.g.es.length)/\True))/\((0=0 /\ x1.ts.length = x4.ts.length)/\((0=0 /\ x1.b.length = x4.src.length)/\True)))/\((((RLe x4.g.es.length x1.g.es.length)/\(RowsEq [.int .i64, .int .i64, .int .i64] x4.g.es.length (encL encE x1.g.es) (encL encE x4.g.es)))/\(((RLe x4.ts.length x1.ts.length)/\(RowsEq [.int .i64] x4.ts.length (encL encI x1.ts) (encL encI x4.ts)))/\(((RLe x4.src.length x1.b.length)/\(RowsEq [.int .i64] x4.src.length (encL encI x1.b) (encL encI x4.src)))/\True)))/\(∃ x5 : Unit, (True/\(True/\(True/\(∃ x6 : Nat, (((x6 <= x1.b.length)/\(((0 = (x6 : Int))/\(((4611686018427387904 : Int) = minK x1.g.n (distG x1.g x1.ts x1.a true) x1.b (4611686018427387904 : Int) x6)/\((0=0 /\ x4.g.n = x4.g.n)/\((0=0 /\ x3.g.n = x3.g.n)/\((0=0 /\ x1.ts.length = x1.ts.length)/\((((x1.g.n : Int) = (x1.g.n : Int))/\((0=0 /\ x1.g.es.length = x1.g.es.length)/\True))/\((0=0 /\ x3.g.n = x3.g.n)/\((0=0 /\ x1.a.length = x1.a.length)/\((0=0 /\ x1.ts.length = x1.ts.length)/\((((x1.g.n : Int) = (x1.g.n : Int))/\((0=0 /\ x1.g.es.length = x1.g.es.length)/\True))/\(((0 : Int) = 0)/\((0=0 /\ 0=0)/\((((x1.g.n : Int) = (x1.g.n : Int))/\((0=0 /\ x1.g.es.length = x1.g.es.length)/\True))/\((0=0 /\ x1.ts.length = x1.ts.length)/\((0=0 /\ x1.a.length = x1.a.length)/\((0=0 /\ x1.b.length = x1.b.length)/\True))))))))))))))))/\(((RLe x4.g.n x4.g.n)/\(RowsEq [.int .i64] x4.g.n (encL encI (distG x4.g x4.ts x4.src true)) (encL encI (distG x4.g x4.ts x4.src true))))/\(((RLe x3.g.n x3.g.n)/\(RowsEq [.int .i64] x3.g.n (encL encI (distG x3.g x3.ts x3.src true)) (encL encI (distG x3.g x3.ts x3.src true))))/\((((x1.g.n : Int) = (x1.g.n : Int))/\((0=0 /\ x1.g.es.length = x1.g.es.length)/\True))/\(((RLe x1.g.es.length x1.g.es.length)/\(RowsEq [.int .i64, .int .i64, .int .i64] x1.g.es.length (encL encE x1.g.es) (encL encE x1.g.es)))/\(((RLe x1.ts.length x1.ts.length)/\(RowsEq [.int .i64] x1.ts.length (encL encI x1.ts) (encL encI x1.ts)))/\(((RLe x1.a.length x1.a.length)/\(RowsEq [.int .i64] x1.a.length (encL encI x1.a) (encL encI x1.a)))/\(((RLe x1.b.length x1.b.length)/\(RowsEq [.int .i64] x1.b.length (encL encI x1.b) (encL encI x1.b)))/\True)))))))))/\(∀ x7 : Nat, ((x7 <= x1.b.length)-> (((decide ((x7 : Int) < (x1.b.length : Int)) = true)-> ((((0 : Int) <= (x7 : Int))/\((x7 : Int) < (x1.b.length : Int)))/\((0 + Int.toNat (x7 : Int) < x1.b.length)/\(((decide ((0 : Int) <= x1.b.getD (0 + Int.toNat (x7 : Int)) default) = true)-> ((((0 : Int) <= (x7 : Int))/\((x7 : Int) < (x1.b.length : Int)))/\((0 + Int.toNat (x7 : Int) < x1.b.length)/\(((decide (x1.b.getD (0 + Int.toNat (x7 : Int)) default < (x1.g.n : Int)) = true)-> ((((0 : Int) <= (x7 : Int))/\((x7 : Int) < (x1.b.length : Int)))/\((0 + Int.toNat (x7 : Int) < x1.b.length)/\((((0 : Int) <= x1.b.getD (0 + Int.toNat (x7 : Int)) default)/\(x1.b.getD (0 + Int.toNat (x7 : Int)) default < (x3.g.n : Int)))/\((0 + Int.toNat (x1.b.getD (0 + Int.toNat (x7 : Int)) default) < x3.g.n)/\(((decide ((distG x3.g x3.ts x3.src true).getD (0 + Int.toNat (x1.b.getD (0 + Int.toNat (x7 : Int)) default)) default < minK x1.g.n (distG x1.g x1.ts x1.a true) x1.b (4611686018427387904 : Int) x7) = true)-> ((((0 : Int) <= (x7 : Int))/\((x7 : Int) < (x1.b.length : Int)))/\((0 + Int.toNat (x7 : Int) < x1.b.length)/\((((0 : Int) <= x1.b.getD (0 + Int.toNat (x7 : Int)) default)/\(x1.b.getD (0 + Int.toNat (x7 : Int)) default < (x3.g.n : Int)))/\((0 + Int.toNat (x1.b.getD (0 + Int.toNat (x7 : Int)) default) < x3.g.n)/\((((-9223372036854775808 : Int) <= (x7 : Int) + 1)/\((x7 : Int) + 1 <= (9223372036854775807 : Int)))/\(∃ x13 : Nat, ((x1.b.length - x13 < x1.b.length - x7)/\((x13 <= x1.b.length)/\((((x7 : Int) + 1 = (x13 : Int))/\(((distG x3.g x3.ts x3.src true).getD (0 + Int.toNat (x1.b.getD (0 + Int.toNat (x7 : Int)) default)) default = minK x1.g.n (distG x1.g x1.ts x1.a true) x1.b (4611686018427387904 : Int) x13)/\((0=0 /\ x4.g.n = x4.g.n)/\((0=0 /\ x3.g.n = x3.g.n)/\((0=0 /\ x1.ts.length = x1.ts.length)/\((((x1.g.n : Int) = (x1.g.n : Int))/\((0=0 /\ x1.g.es.length = x1.g.es.length)/\True))/\((0=0 /\ x3.g.n = x3.g.n)/\((0=0 /\ x1.a.length = x1.a.length)/\((0=0 /\ x1.ts.length = x1.ts.length)/\((((x1.g.n : Int) = (x1.g.n : Int))/\((0=0 /\ x1.g.es.length = x1.g.es.length)/\True))/\(((0 : Int) = 0)/\((0=0 /\ 0=0)/\((((x1.g.n : Int) = (x1.g.n : Int))/\((0=0 /\ x1.g.es.length = x1.g.es.length)/\True))/\((0=0 /\ x1.ts.length = x1.ts.length)/\((0=0 /\ x1.a.length = x1.a.length)/\((0=0 /\ x1.b.length = x1.b.length)/\True))))))))))))))))/\(((RLe x4.g.n x4.g.n)/\(RowsEq [.int .i64] x4.g.n (encL encI (distG x4.g x4.ts x4.src true)) (encL encI (distG x4.g x4.ts x4.src true))))/\(((RLe x3.g.n x3.g.n)/\(RowsEq [.int .i64] x3.g.n (encL encI (distG x3.g x3.ts x3.src true)) (encL encI (distG x3.g x3.ts x3.src true))))/\((((x1.g.n : Int) = (x1.g.n : Int))/\((0=0 /\ x1.g.es.length = x1.g.es.length)/\True))/\(((RLe x1.g.es.length x1.g.es.length)/\(RowsEq [.int .i64, .int .i64, .int .i64] x1.g.es.length (encL encE x1.g.es) (encL encE x1.g.es)))/\(((RLe x1.ts.length x1.ts.length)/\(RowsEq [.int .i64] x1.ts.length (encL encI x1.ts) (encL encI x1.ts)))/\(((RLe x1.a.length x1.a.length)/\(RowsEq [.int .i64] x1.a.length (encL encI x1.a) (encL encI x1.a)))/\(((RLe x1.b.length x1.b.length)/\(RowsEq [.int .i64] x1.b.length (encL encI x1.b) (encL encI x1.b)))/\True)))))))))))))))))/\((decide ((distG x3.g x3.ts x3.src true).getD (0 + Int.toNat (x1.b.getD (0 + Int.toNat (x7 : Int)) default)) default < minK x1.g.n (distG x1.g x1.ts x1.a true) x1.b (4611686018427387904 : Int) x7) = false)-> ((((-9223372036854775808 : Int) <= (x7 : Int) + 1)/\((x7 : Int) + 1 <= (9223372036854775807 : Int)))/\(∃ x15 : Nat, ((x1.b.length - x15 < x1.b.length - x7)/\((x15 <= x1.b.length)/\((((x7 : Int) + 1 = (x15 : Int))/\((minK x1.g.n (distG x1.g x1.ts x1.a true) x1.b (4611686018427387904 : Int) x7 = minK x1.g.n (distG x1.g x1.ts x1.a true) x1.b (4611686018427387904 : Int) x15)/\((0=0 /\ x4.g.n = x4.g.n)/\((0=0 /\ x3.g.n = x3.g.n)/\((0=0 /\ x1.ts.length = x1.ts.length)/\((((x1.g.n : Int) = (x1.g.n : Int))/\((0=0 /\ x1.g.es.length = x1.g.es.length)/\True))/\((0=0 /\ x3.g.n = x3.g.n)/\((0=0 /\ x1.a.length = x1.a.length)/\((0=0 /\ x1.ts.length = x1.ts.length)/\((((x1.g.n : Int) = (x1.g.n : Int))/\((0=0 /\ x1.g.es.length = x1.g.es.length)/\True))/\(((0 : Int) = 0)/\((0=0 /\ 0=0)/\((((x1.g.n : Int) = (x1.g.n : Int))/\((0=0 /\ x1.g.es.length = x1.g.es.length)/\True))/\((0=0 /\ x1.ts.length = x1.ts.length)/\((0=0 /\ x1.a.length = x1.a.length)/\((0=0 /\ x1.b.length = x1.b.length)/\True))))))))))))))))/\(((RLe x4.g.n x4.g.n)/\(RowsEq [.int .i64] x4.g.n (encL encI (distG x4.g x4.ts x4.src true)) (encL encI (distG x4.g x4.ts x4.src true))))/\(((RLe x3.g.n x3.g.n)/\(RowsEq [.int .i64] x3.g.n (encL encI (distG x3.g x3.ts x3.src true)) (encL encI (distG x3.g x3.ts x3.src true))))/\((((x1.g.n : Int) = (x1.g.n : Int))/\((0=0 /\ x1.g.es.length = x1.g.es.length)/\True))/\(((RLe x1.g.es.length x1.g.es.length)/\(RowsEq [.int .i64, .int .i64, .int .i64] x1.g.es.length (encL encE x1.g.es) (encL encE x1.g.es)))/\(((RLe x1.ts.length x1.ts.length)/\(RowsEq [.int .i64] x1.ts.length (encL encI x1.ts) (encL encI x1.ts)))/\(((RLe x1.a.length x1.a.length)/\(RowsEq [.int .i64] x1.a.length (encL encI x1.a) (encL encI x1.a)))/\(((RLe x1.b.length x1.b.length)/\(RowsEq [.int .i64] x1.b.length (encL encI x1.b) (encL encI x1.b)))/\True)))))))))))))))))))/\((decide (x1.b.getD (0 + Int.toNat (x7 : Int)) default < (x1.g.n : Int)) = false)-> ((((-9223372036854775808 : Int) <= (x7 : Int) + 1)/\((x7 : Int) + 1 <= (9223372036854775807 : Int)))/\(∃ x17 : Nat, ((x1.b.length - x17 < x1.b.length - x7)/\((x17 <= x1.b.length)/\((((x7 : Int) + 1 = (x17 : Int))/\((minK x1.g.n (distG x1.g x1.ts x1.a true) x1.b (4611686018427387904 : Int) x7 = minK x1.g.n (distG x1.g x1.ts x1.a true) x1.b (4611686018427387904 : Int) x17)/\((0=0 /\ x4.g.n = x4.g.n)/\((0=0 /\ x3.g.n = x3.g.n)/\((0=0 /\ x1.ts.length = x1.ts.length)/\((((x1.g.n : Int) = (x1.g.n : Int))/\((0=0 /\ x1.g.es.length = x1.g.es.length)/\True))/\((0=0 /\ x3.g.n = x3.g.n)/\((0=0 /\ x1.a.length = x1.a.length)/\((0=0 /\ x1.ts.length = x1.ts.length)/\((((x1.g.n : Int) = (x1.g.n : Int))/\((0=0 /\ x1.g.es.length = x1.g.es.length)/\True))/\(((0 : Int) = 0)/\((0=0 /\ 0=0)/\((((x1.g.n : Int) = (x1.g.n : Int))/\((0=0 /\ x1.g.es.length = x1.g.es.length)/\True))/\((0=0 /\ x1.ts.length = x1.ts.length)/\((0=0 /\ x1.a.length = x1.a.length)/\((0=0 /\ x1.b.length = x1.b.length)/\True))))))))))))))))/\(((RLe x4.g.n x4.g.n)/\(RowsEq [.int .i64] x4.g.n (encL encI (distG x4.g x4.ts x4.src true)) (encL encI (distG x4.g x4.ts x4.src true))))/\(((RLe x3.g.n x3.g.n)/\(RowsEq [.int .i64] x3.g.n (encL encI (distG x3.g x3.ts x3.src true)) (encL encI (distG x3.g x3.ts x3.src true))))/\((((x1.g.n : Int) = (x1.g.n : Int))/\((0=0 /\ x1.g.es.length = x1.g.es.length)/\True))/\(((RLe x1.g.es.length x1.g.es.length)/\(RowsEq [.int .i64, .int .i64, .int .i64] x1.g.es.length (encL encE x1.g.es) (encL encE x1.g.es)))/\(((RLe x1.ts.length x1.ts.length)/\(RowsEq [.int .i64] x1.ts.length (encL encI x1.ts) (encL encI x1.ts)))/\(((RLe x1.a.length x1.a.length)/\(RowsEq [.int .i64] x1.a.length (encL encI x1.a) (encL encI x1.a)))/\(((RLe x1.b.length x1.b.length)/\(RowsEq [.int .i64] x1.b.length (encL encI x1.b) (encL encI x1.b)))/\True)))))))))))))))))/\((decide ((0 : Int) <= x1.b.getD (0 + Int.toNat (x7 : Int)) default) = false)-> ((((-9223372036854775808 : Int) <= (x7 : Int) + 1)/\((x7 : Int) + 1 <= (9223372036854775807 : Int)))/\(∃ x19 : Nat, ((x1.b.length - x19 < x1.b.length - x7)/\((x19 <= x1.b.length)/\((((x7 : Int) + 1 = (x19 : Int))/\((minK x1.g.n (distG x1.g x1.ts x1.a true) x1.b (4611686018427387904 : Int) x7 = minK x1.g.n (distG x1.g x1.ts x1.a true) x1.b (4611686018427387904 : Int) x19)/\((0=0 /\ x4.g.n = x4.g.n)/\((0=0 /\ x3.g.n = x3.g.n)/\((0=0 /\ x1.ts.length = x1.ts.length)/\((((x1.g.n : Int) = (x1.g.n : Int))/\((0=0 /\ x1.g.es.length = x1.g.es.length)/\True))/\((0=0 /\ x3.g.n = x3.g.n)/\((0=0 /\ x1.a.length = x1.a.length)/\((0=0 /\ x1.ts.length = x1.ts.length)/\((((x1.g.n : Int) = (x1.g.n : Int))/\((0=0 /\ x1.g.es.length = x1.g.es.length)/\True))/\(((0 : Int) = 0)/\((0=0 /\ 0=0)/\((((x1.g.n : Int) = (x1.g.n : Int))/\((0=0 /\ x1.g.es.length = x1.g.es.length)/\True))/\((0=0 /\ x1.ts.length = x1.ts.length)/\((0=0 /\ x1.a.length = x1.a.length)/\((0=0 /\ x1.b.length = x1.b.length)/\True))))))))))))))))/\(((RLe x4.g.n x4.g.n)/\(RowsEq [.int .i64] x4.g.n (encL encI (distG x4.g x4.ts x4.src true)) (encL encI (distG x4.g x4.ts x4.src true))))/\(((RLe x3.g.n x3.g.n)/\(RowsEq [.int .i64] x3.g.n (encL encI (distG x3.g x3.ts x3.src true)) (encL encI (distG x3.g x3.ts x3.src true))))/\((((x1.g.n : Int) = (x1.g.n : Int))/\((0=0 /\ x1.g.es.length = x1.g.es.length)/\True))/\(((RLe x1.g.es.length x1.g.es.length)/\(RowsEq [.int .i64, .int .i64, .int .i64] x1.g.es.length (encL encE x1.g.es) (encL encE x1.g.es)))/\(((RLe x1.ts.length x1.ts.length)/\(RowsEq [.int .i64] x1.ts.length (encL encI x1.ts) (encL encI x1.ts)))/\(((RLe x1.a.length x1.a.length)/\(RowsEq [.int .i64] x1.a.length (encL encI x1.a) (encL encI x1.a)))/\(((RLe x1.b.length x1.b.length)/\(RowsEq [.int .i64] x1.b.length (encL encI x1.b) (encL encI x1.b)))/\True)))))))))))))))))/\((decide ((x7 : Int) < (x1.b.length : Int)) = false)-> (∃ x21 : Nat, (((x21 <= x1.a.length)/\(((0 = (x21 : Int))/\((minK x1.g.n (distG x1.g x1.ts x1.a true) x1.b (4611686018427387904 : Int) x7 = minK x1.g.n (distG x1.g x1.ts x1.b true) x1.a (minN x1.g.n (atI (distG x1.g x1.ts x1.a true)) x1.b (4611686018427387904 : Int)) x21)/\(((x7 : Int) = (x7 : Int))/\((0=0 /\ x4.g.n = x4.g.n)/\((0=0 /\ x3.g.n = x3.g.n)/\((0=0 /\ x1.ts.length = x1.ts.length)/\((((x1.g.n : Int) = (x1.g.n : Int))/\((0=0 /\ x1.g.es.length = x1.g.es.length)/\True))/\((0=0 /\ x3.g.n = x3.g.n)/\((0=0 /\ x1.a.length = x1.a.length)/\((0=0 /\ x1.ts.length = x1.ts.length)/\((((x1.g.n : Int) = (x1.g.n : Int))/\((0=0 /\ x1.g.es.length = x1.g.es.length)/\True))/\(((0 : Int) = 0)/\((0=0 /\ 0=0)/\((((x1.g.n : Int) = (x1.g.n : Int))/\((0=0 /\ x1.g.es.length = x1.g.es.length)/\True))/\((0=0 /\ x1.ts.length = x1.ts.length)/\((0=0 /\ x1.a.length = x1.a.length)/\((0=0 /\ x1.b.length = x1.b.length)/\True)))))))))))))))))/\(((RLe x4.g.n x4.g.n)/\(RowsEq [.int .i64] x4.g.n (encL encI (distG x4.g x4.ts x4.src true)) (encL encI (distG x4.g x4.ts x4.src true))))/\(((RLe x3.g.n x3.g.n)/\(RowsEq [.int .i64] x3.g.n (encL encI (distG x3.g x3.ts x3.src true)) (encL encI (distG x3.g x3.ts x3.src true))))/\((((x1.g.n : Int) = (x1.g.n : Int))/\((0=0 /\ x1.g.es.length = x1.g.es.length)/\True))/\(((RLe x1.g.es.length x1.g.es.length)/\(RowsEq [.int .i64, .int .i64, .int .i64] x1.g.es.length (encL encE x1.g.es) (encL encE x1.g.es)))/\(((RLe x1.ts.length x1.ts.length)/\(RowsEq [.int .i64] x1.ts.length (encL encI x1.ts) (encL encI x1.ts)))/\(((RLe x1.a.length x1.a.length)/\(RowsEq [.int .i64] x1.a.length (encL encI x1.a) (encL encI x1.a)))/\(((RLe x1.b.length x1.b.length)/\(RowsEq [.int .i64] x1.b.length (encL encI x1.b) (encL encI x1.b)))/\True)))))))))/\(∀ x22 : Nat, ((x22 <= x1.a.length)-> (((decide ((x22 : Int) < (x1.a.length : Int)) = true)-> ((((0 : Int) <= (x22 : Int))/\((x22 : Int) < (x1.a.length : Int)))/\((0 + Int.toNat (x22 : Int) < x1.a.length)/\(((decide ((0 : Int) <= x1.a.getD (0 + Int.toNat (x22 : Int)) default) = true)-> ((((0 : Int) <= (x22 : Int))/\((x22 : Int) < (x1.a.length : Int)))/\((0 + Int.toNat (x22 : Int) < x1.a.length)/\(((decide (x1.a.getD (0 + Int.toNat (x22 : Int)) default < (x1.g.n : Int)) = true)-> ((((0 : Int) <= (x22 : Int))/\((x22 : Int) < (x1.a.length : Int)))/\((0 + Int.toNat (x22 : Int) < x1.a.length)/\((((0 : Int) <= x1.a.getD (0 + Int.toNat (x22 : Int)) default)/\(x1.a.getD (0 + Int.toNat (x22 : Int)) default < (x4.g.n : Int)))/\((0 + Int.toNat (x1.a.getD (0 + Int.toNat (x22 : Int)) default) < x4.g.n)/\(((decide ((distG x4.g x4.ts x4.src true).getD (0 + Int.toNat (x1.a.getD (0 + Int.toNat (x22 : Int)) default)) default < minK x1.g.n (distG x1.g x1.ts x1.b true) x1.a (minN x1.g.n (atI (distG x1.g x1.ts x1.a true)) x1.b (4611686018427387904 : Int)) x22) = true)-> ((((0 : Int) <= (x22 : Int))/\((x22 : Int) < (x1.a.length : Int)))/\((0 + Int.toNat (x22 : Int) < x1.a.length)/\((((0 : Int) <= x1.a.getD (0 + Int.toNat (x22 : Int)) default)/\(x1.a.getD (0 + Int.toNat (x22 : Int)) default < (x4.g.n : Int)))/\((0 + Int.toNat (x1.a.getD (0 + Int.toNat (x22 : Int)) default) < x4.g.n)/\((((-9223372036854775808 : Int) <= (x22 : Int) + 1)/\((x22 : Int) + 1 <= (9223372036854775807 : Int)))/\(∃ x28 : Nat, ((x1.a.length - x28 < x1.a.length - x22)/\((x28 <= x1.a.length)/\((((x22 : Int) + 1 = (x28 : Int))/\(((distG x4.g x4.ts x4.src true).getD (0 + Int.toNat (x1.a.getD (0 + Int.toNat (x22 : Int)) default)) default = minK x1.g.n (distG x1.g x1.ts x1.b true) x1.a (minN x1.g.n (atI (distG x1.g x1.ts x1.a true)) x1.b (4611686018427387904 : Int)) x28)/\(((x7 : Int) = (x7 : Int))/\((0=0 /\ x4.g.n = x4.g.n)/\((0=0 /\ x3.g.n = x3.g.n)/\((0=0 /\ x1.ts.length = x1.ts.length)/\((((x1.g.n : Int) = (x1.g.n : Int))/\((0=0 /\ x1.g.es.length = x1.g.es.length)/\True))/\((0=0 /\ x3.g.n = x3.g.n)/\((0=0 /\ x1.a.length = x1.a.length)/\((0=0 /\ x1.ts.length = x1.ts.length)/\((((x1.g.n : Int) = (x1.g.n : Int))/\((0=0 /\ x1.g.es.length = x1.g.es.length)/\True))/\(((0 : Int) = 0)/\((0=0 /\ 0=0)/\((((x1.g.n : Int) = (x1.g.n : Int))/\((0=0 /\ x1.g.es.length = x1.g.es.length)/\True))/\((0=0 /\ x1.ts.length = x1.ts.length)/\((0=0 /\ x1.a.length = x1.a.length)/\((0=0 /\ x1.b.length = x1.b.length)/\True)))))))))))))))))/\(((RLe x4.g.n x4.g.n)/\(RowsEq [.int .i64] x4.g.n (encL encI (distG x4.g x4.ts x4.src true)) (encL encI (distG x4.g x4.ts x4.src true))))/\(((RLe x3.g.n x3.g.n)/\(RowsEq [.int .i64] x3.g.n (encL encI (distG x3.g x3.ts x3.src true)) (encL encI (distG x3.g x3.ts x3.src true))))/\((((x1.g.n : Int) = (x1.g.n : Int))/\((0=0 /\ x1.g.es.length = x1.g.es.length)/\True))/\(((RLe x1.g.es.length x1.g.es.length)/\(RowsEq [.int .i64, .int .i64, .int .i64] x1.g.es.length (encL encE x1.g.es) (encL encE x1.g.es)))/\(((RLe x1.ts.length x1.ts.length)/\(RowsEq [.int .i64] x1.ts.length (encL encI x1.ts) (encL encI x1.ts)))/\(((RLe x1.a.length x1.a.length)/\(RowsEq [.int .i64] x1.a.length (encL encI x1.a) (encL encI x1.a)))/\(((RLe x1.b.length x1.b.length)/\(RowsEq [.int .i64] x1.b.length (encL encI x1.b) (encL encI x1.b)))/\True)))))))))))))))))/\((decide ((distG x4.g x4.ts x4.src true).getD (0 + Int.toNat (x1.a.getD (0 + Int.toNat (x22 : Int)) default)) default < minK x1.g.n (distG x1.g x1.ts x1.b true) x1.a (minN x1.g.n (atI (distG x1.g x1.ts x1.a true)) x1.b (4611686018427387904 : Int)) x22) = false)-> ((((-9223372036854775808 : Int) <= (x22 : Int) + 1)/\((x22 : Int) + 1 <= (9223372036854775807 : Int)))/\(∃ x30 : Nat, ((x1.a.length - x30 < x1.a.length - x22)/\((x30 <= x1.a.length)/\((((x22 : Int) + 1 = (x30 : Int))/\((minK x1.g.n (distG x1.g x1.ts x1.b true) x1.a (minN x1.g.n (atI (distG x1.g x1.ts x1.a true)) x1.b (4611686018427387904 : Int)) x22 = minK x1.g.n (distG x1.g x1.ts x1.b true) x1.a (minN x1.g.n (atI (distG x1.g x1.ts x1.a true)) x1.b (4611686018427387904 : Int)) x30)/\(((x7 : Int) = (x7 : Int))/\((0=0 /\ x4.g.n = x4.g.n)/\((0=0 /\ x3.g.n = x3.g.n)/\((0=0 /\ x1.ts.length = x1.ts.length)/\((((x1.g.n : Int) = (x1.g.n : Int))/\((0=0 /\ x1.g.es.length = x1.g.es.length)/\True))/\((0=0 /\ x3.g.n = x3.g.n)/\((0=0 /\ x1.a.length = x1.a.length)/\((0=0 /\ x1.ts.length = x1.ts.length)/\((((x1.g.n : Int) = (x1.g.n : Int))/\((0=0 /\ x1.g.es.length = x1.g.es.length)/\True))/\(((0 : Int) = 0)/\((0=0 /\ 0=0)/\((((x1.g.n : Int) = (x1.g.n : Int))/\((0=0 /\ x1.g.es.length = x1.g.es.length)/\True))/\((0=0 /\ x1.ts.length = x1.ts.length)/\((0=0 /\ x1.a.length = x1.a.length)/\((0=0 /\ x1.b.length = x1.b.length)/\True)))))))))))))))))/\(((RLe x4.g.n x4.g.n)/\(RowsEq [.int .i64] x4.g.n (encL encI (distG x4.g x4.ts x4.src true)) (encL encI (distG x4.g x4.ts x4.src true))))/\(((RLe x3.g.n x3.g.n)/\(RowsEq [.int .i64] x3.g.n (encL encI (distG x3.g x3.ts x3.src true)) (encL encI (distG x3.g x3.ts x3.src true))))/\((((x1.g.n : Int) = (x1.g.n : Int))/\((0=0 /\ x1.g.es.length = x1.g.es.length)/\True))/\(((RLe x1.g.es.length x1.g.es.length)/\(RowsEq [.int .i64, .int .i64, .int .i64] x1.g.es.length (encL encE x1.g.es) (encL encE x1.g.es)))/\(((RLe x1.ts.length x1.ts.length)/\(RowsEq [.int .i64] x1.ts.length (encL encI x1.ts) (encL encI x1.ts)))/\(((RLe x1.a.length x1.a.length)/\(RowsEq [.int .i64] x1.a.length (encL encI x1.a) (encL encI x1.a)))/\(((RLe x1.b.length x1.b.length)/\(RowsEq [.int .i64] x1.b.length (encL encI x1.b) (encL encI x1.b)))/\True)))))))))))))))))))/\((decide (x1.a.getD (0 + Int.toNat (x22 : Int)) default < (x1.g.n : Int)) = false)-> ((((-9223372036854775808 : Int) <= (x22 : Int) + 1)/\((x22 : Int) + 1 <= (9223372036854775807 : Int)))/\(∃ x32 : Nat, ((x1.a.length - x32 < x1.a.length - x22)/\((x32 <= x1.a.length)/\((((x22 : Int) + 1 = (x32 : Int))/\((minK x1.g.n (distG x1.g x1.ts x1.b true) x1.a (minN x1.g.n (atI (distG x1.g x1.ts x1.a true)) x1.b (4611686018427387904 : Int)) x22 = minK x1.g.n (distG x1.g x1.ts x1.b true) x1.a (minN x1.g.n (atI (distG x1.g x1.ts x1.a true)) x1.b (4611686018427387904 : Int)) x32)/\(((x7 : Int) = (x7 : Int))/\((0=0 /\ x4.g.n = x4.g.n)/\((0=0 /\ x3.g.n = x3.g.n)/\((0=0 /\ x1.ts.length = x1.ts.length)/\((((x1.g.n : Int) = (x1.g.n : Int))/\((0=0 /\ x1.g.es.length = x1.g.es.length)/\True))/\((0=0 /\ x3.g.n = x3.g.n)/\((0=0 /\ x1.a.length = x1.a.length)/\((0=0 /\ x1.ts.length = x1.ts.length)/\((((x1.g.n : Int) = (x1.g.n : Int))/\((0=0 /\ x1.g.es.length = x1.g.es.length)/\True))/\(((0 : Int) = 0)/\((0=0 /\ 0=0)/\((((x1.g.n : Int) = (x1.g.n : Int))/\((0=0 /\ x1.g.es.length = x1.g.es.length)/\True))/\((0=0 /\ x1.ts.length = x1.ts.length)/\((0=0 /\ x1.a.length = x1.a.length)/\((0=0 /\ x1.b.length = x1.b.length)/\True)))))))))))))))))/\(((RLe x4.g.n x4.g.n)/\(RowsEq [.int .i64] x4.g.n (encL encI (distG x4.g x4.ts x4.src true)) (encL encI (distG x4.g x4.ts x4.src true))))/\(((RLe x3.g.n x3.g.n)/\(RowsEq [.int .i64] x3.g.n (encL encI (distG x3.g x3.ts x3.src true)) (encL encI (distG x3.g x3.ts x3.src true))))/\((((x1.g.n : Int) = (x1.g.n : Int))/\((0=0 /\ x1.g.es.length = x1.g.es.length)/\True))/\(((RLe x1.g.es.length x1.g.es.length)/\(RowsEq [.int .i64, .int .i64, .int .i64] x1.g.es.length (encL encE x1.g.es) (encL encE x1.g.es)))/\(((RLe x1.ts.length x1.ts.length)/\(RowsEq [.int .i64] x1.ts.length (encL encI x1.ts) (encL encI x1.ts)))/\(((RLe x1.a.length x1.a.length)/\(RowsEq [.int .i64] x1.a.length (encL encI x1.a) (encL encI x1.a)))/\(((RLe x1.b.length x1.b.length)/\(RowsEq [.int .i64] x1.b.length (encL encI x1.b) (encL encI x1.b)))/\True)))))))))))))))))/\((decide ((0 : Int) <= x1.a.getD (0 + Int.toNat (x22 : Int)) default) = false)-> ((((-9223372036854775808 : Int) <= (x22 : Int) + 1)/\((x22 : Int) + 1 <= (9223372036854775807 : Int)))/\(∃ x34 : Nat, ((x1.a.length - x34 < x1.a.length - x22)/\((x34 <= x1.a.length)/\((((x22 : Int) + 1 = (x34 : Int))/\((minK x1.g.n (distG x1.g x1.ts x1.b true) x1.a (minN x1.g.n (atI (distG x1.g x1.ts x1.a true)) x1.b (4611686018427387904 : Int)) x22 = minK x1.g.n (distG x1.g x1.ts x1.b true) x1.a (minN x1.g.n (atI (distG x1.g x1.ts x1.a true)) x1.b (4611686018427387904 : Int)) x34)/\(((x7 : Int) = (x7 : Int))/\((0=0 /\ x4.g.n = x4.g.n)/\((0=0 /\ x3.g.n = x3.g.n)/\((0=0 /\ x1.ts.length = x1.ts.length)/\((((x1.g.n : Int) = (x1.g.n : Int))/\((0=0 /\ x1.g.es.length = x1.g.es.length)/\True))/\((0=0 /\ x3.g.n = x3.g.n)/\((0=0 /\ x1.a.length = x1.a.length)/\((0=0 /\ x1.ts.length = x1.ts.length)/\((((x1.g.n : Int) = (x1.g.n : Int))/\((0=0 /\ x1.g.es.length = x1.g.es.length)/\True))/\(((0 : Int) = 0)/\((0=0 /\ 0=0)/\((((x1.g.n : Int) = (x1.g.n : Int))/\((0=0 /\ x1.g.es.length = x1.g.es.length)/\True))/\((0=0 /\ x1.ts.length = x1.ts.length)/\((0=0 /\ x1.a.length = x1.a.length)/\((0=0 /\ x1.b.length = x1.b.length)/\True)))))))))))))))))/\(((RLe x4.g.n x4.g.n)/\(RowsEq [.int .i64] x4.g.n (encL encI (distG x4.g x4.ts x4.src true)) (encL encI (distG x4.g x4.ts x4.src true))))/\(((RLe x3.g.n x3.g.n)/\(RowsEq [.int .i64] x3.g.n (encL encI (distG x3.g x3.ts x3.src true)) (encL encI (distG x3.g x3.ts x3.src true))))/\((((x1.g.n : Int) = (x1.g.n : Int))/\((0=0 /\ x1.g.es.length = x1.g.es.length)/\True))/\(((RLe x1.g.es.length x1.g.es.length)/\(RowsEq [.int .i64, .int .i64, .int .i64] x1.g.es.length (encL encE x1.g.es) (encL encE x1.g.es)))/\(((RLe x1.ts.length x1.ts.length)/\(RowsEq [.int .i64] x1.ts.length (encL encI x1.ts) (encL encI x1.ts)))/\(((RLe x1.a.length x1.a.length)/\(RowsEq [.int .i64] x1.a.length (encL encI x1.a) (encL encI x1.a)))/\(((RLe x1.b.length x1.b.length)/\(RowsEq [.int .i64] x1.b.length (encL encI x1.b) (encL encI x1.b)))/\True)))))))))))))))))/\((decide ((x22 : Int) < (x1.a.length : Int)) = false)-> ((minK x1.g.n (distG x1.g x1.ts x1.b true) x1.a (minN x1.g.n (atI (distG x1.g x1.ts x1.a true)) x1.b (4611686018427387904 : Int)) x22 = gapP x1.g x1.ts x1.a x1.b)/\True)))))))))))))))))))))))))))) = (Keeps cfgUc Try.f13 qgapC qgapI) by kernel_rfl) (fun x1 => fun h2 => ⟨({ g := GAx.g x1, ts := GAx.ts x1, src := GAx.a x1 : FX }),
(by (try dsimp only at *); exact h2.l),
⟨⟨rfl,
⟨rfl,rfl⟩,trivial⟩,
⟨rfl,rfl⟩,
⟨rfl,rfl⟩,trivial⟩,
⟨⟨⟨Nat.le_refl _⟩,RowsEq.rfl'⟩,
⟨⟨Nat.le_refl _⟩,RowsEq.rfl'⟩,
⟨⟨Nat.le_refl _⟩,RowsEq.rfl'⟩,trivial⟩,
({ g := GAx.g x1, ts := GAx.ts x1, src := GAx.b x1 : FX }),
(by (try dsimp only at *); exact h2.r),
⟨⟨rfl,
⟨rfl,rfl⟩,trivial⟩,
⟨rfl,rfl⟩,
⟨rfl,rfl⟩,trivial⟩,
⟨⟨⟨Nat.le_refl _⟩,RowsEq.rfl'⟩,
⟨⟨Nat.le_refl _⟩,RowsEq.rfl'⟩,
⟨⟨Nat.le_refl _⟩,RowsEq.rfl'⟩,trivial⟩,
(()),trivial,trivial,trivial,
((0 : Nat)),
⟨(by (try dsimp only at *); omega),
⟨(by (try dsimp only at *); omega),
(by (try dsimp only at *); rfl),
⟨rfl,rfl⟩,
⟨rfl,rfl⟩,
⟨rfl,rfl⟩,
⟨rfl,
⟨rfl,rfl⟩,trivial⟩,
⟨rfl,rfl⟩,
⟨rfl,rfl⟩,
⟨rfl,rfl⟩,
⟨rfl,
⟨rfl,rfl⟩,trivial⟩,rfl,
⟨rfl,rfl⟩,
⟨rfl,
⟨rfl,rfl⟩,trivial⟩,
⟨rfl,rfl⟩,
⟨rfl,rfl⟩,
⟨rfl,rfl⟩,trivial⟩,
⟨⟨Nat.le_refl _⟩,RowsEq.rfl'⟩,
⟨⟨Nat.le_refl _⟩,RowsEq.rfl'⟩,
⟨rfl,
⟨rfl,rfl⟩,trivial⟩,
⟨⟨Nat.le_refl _⟩,RowsEq.rfl'⟩,
⟨⟨Nat.le_refl _⟩,RowsEq.rfl'⟩,
⟨⟨Nat.le_refl _⟩,RowsEq.rfl'⟩,
⟨⟨Nat.le_refl _⟩,RowsEq.rfl'⟩,trivial⟩,
fun x7 => fun h8 => ⟨fun g9 => have h9 := of_decide_eq_true g9; ⟨⟨(by (try dsimp only at *); omega),
(by (try dsimp only at *); omega)⟩,
(by (try dsimp only at *); omega),
fun g10 => have h10 := of_decide_eq_true g10; ⟨⟨(by (try dsimp only at *); omega),
(by (try dsimp only at *); omega)⟩,
(by (try dsimp only at *); omega),
fun g11 => have h11 := of_decide_eq_true g11; ⟨⟨(by (try dsimp only at *); omega),
(by (try dsimp only at *); omega)⟩,
(by (try dsimp only at *); omega),
⟨(by (try dsimp only at *); omega),
(by (try dsimp only at *); omega)⟩,
(by (try dsimp only at *); omega),
fun g12 => have h12 := of_decide_eq_true g12; ⟨⟨(by (try dsimp only at *); omega),
(by (try dsimp only at *); omega)⟩,
(by (try dsimp only at *); omega),
⟨(by (try dsimp only at *); omega),
(by (try dsimp only at *); omega)⟩,
(by (try dsimp only at *); omega),
⟨(by (try dsimp only at *); omega),
(by (try dsimp only at *); (have := h2.n; have := h2.a; have := h2.b; omega))⟩,
(x7 + (1 : Nat)),
(by (try dsimp only at *); omega),
(by (try dsimp only at *); omega),
⟨(by (try dsimp only at *); omega),
(by (try dsimp only at *); (simp only [Nat.zero_add, Int.toNat_natCast] at *; rw [minK_succ (by omega)]; rw [if_pos (by omega)]; omega)),
⟨rfl,rfl⟩,
⟨rfl,rfl⟩,
⟨rfl,rfl⟩,
⟨rfl,
⟨rfl,rfl⟩,trivial⟩,
⟨rfl,rfl⟩,
⟨rfl,rfl⟩,
⟨rfl,rfl⟩,
⟨rfl,
⟨rfl,rfl⟩,trivial⟩,rfl,
⟨rfl,rfl⟩,
⟨rfl,
⟨rfl,rfl⟩,trivial⟩,
⟨rfl,rfl⟩,
⟨rfl,rfl⟩,
⟨rfl,rfl⟩,trivial⟩,
⟨⟨Nat.le_refl _⟩,RowsEq.rfl'⟩,
⟨⟨Nat.le_refl _⟩,RowsEq.rfl'⟩,
⟨rfl,
⟨rfl,rfl⟩,trivial⟩,
⟨⟨Nat.le_refl _⟩,RowsEq.rfl'⟩,
⟨⟨Nat.le_refl _⟩,RowsEq.rfl'⟩,
⟨⟨Nat.le_refl _⟩,RowsEq.rfl'⟩,
⟨⟨Nat.le_refl _⟩,RowsEq.rfl'⟩,trivial⟩,
fun g14 => have h14 := of_decide_eq_false g14; ⟨⟨(by (try dsimp only at *); omega),
(by (try dsimp only at *); (have := h2.n; have := h2.a; have := h2.b; omega))⟩,
(x7 + (1 : Nat)),
(by (try dsimp only at *); omega),
(by (try dsimp only at *); omega),
⟨(by (try dsimp only at *); omega),
(by (try dsimp only at *); (simp only [Nat.zero_add, Int.toNat_natCast] at *; rw [minK_succ (by omega)]; rw [if_pos (by omega)]; omega)),
⟨rfl,rfl⟩,
⟨rfl,rfl⟩,
⟨rfl,rfl⟩,
⟨rfl,
⟨rfl,rfl⟩,trivial⟩,
⟨rfl,rfl⟩,
⟨rfl,rfl⟩,
⟨rfl,rfl⟩,
⟨rfl,
⟨rfl,rfl⟩,trivial⟩,rfl,
⟨rfl,rfl⟩,
⟨rfl,
⟨rfl,rfl⟩,trivial⟩,
⟨rfl,rfl⟩,
⟨rfl,rfl⟩,
⟨rfl,rfl⟩,trivial⟩,
⟨⟨Nat.le_refl _⟩,RowsEq.rfl'⟩,
⟨⟨Nat.le_refl _⟩,RowsEq.rfl'⟩,
⟨rfl,
⟨rfl,rfl⟩,trivial⟩,
⟨⟨Nat.le_refl _⟩,RowsEq.rfl'⟩,
⟨⟨Nat.le_refl _⟩,RowsEq.rfl'⟩,
⟨⟨Nat.le_refl _⟩,RowsEq.rfl'⟩,
⟨⟨Nat.le_refl _⟩,RowsEq.rfl'⟩,trivial⟩⟩,
fun g16 => have h16 := of_decide_eq_false g16; ⟨⟨(by (try dsimp only at *); omega),
(by (try dsimp only at *); (have := h2.n; have := h2.a; have := h2.b; omega))⟩,
(x7 + (1 : Nat)),
(by (try dsimp only at *); omega),
(by (try dsimp only at *); omega),
⟨(by (try dsimp only at *); omega),
(by (try dsimp only at *); (simp only [Nat.zero_add, Int.toNat_natCast] at *; rw [minK_succ (by omega)]; rw [if_neg (by omega)])),
⟨rfl,rfl⟩,
⟨rfl,rfl⟩,
⟨rfl,rfl⟩,
⟨rfl,
⟨rfl,rfl⟩,trivial⟩,
⟨rfl,rfl⟩,
⟨rfl,rfl⟩,
⟨rfl,rfl⟩,
⟨rfl,
⟨rfl,rfl⟩,trivial⟩,rfl,
⟨rfl,rfl⟩,
⟨rfl,
⟨rfl,rfl⟩,trivial⟩,
⟨rfl,rfl⟩,
⟨rfl,rfl⟩,
⟨rfl,rfl⟩,trivial⟩,
⟨⟨Nat.le_refl _⟩,RowsEq.rfl'⟩,
⟨⟨Nat.le_refl _⟩,RowsEq.rfl'⟩,
⟨rfl,
⟨rfl,rfl⟩,trivial⟩,
⟨⟨Nat.le_refl _⟩,RowsEq.rfl'⟩,
⟨⟨Nat.le_refl _⟩,RowsEq.rfl'⟩,
⟨⟨Nat.le_refl _⟩,RowsEq.rfl'⟩,
⟨⟨Nat.le_refl _⟩,RowsEq.rfl'⟩,trivial⟩⟩,
fun g18 => have h18 := of_decide_eq_false g18; ⟨⟨(by (try dsimp only at *); omega),
(by (try dsimp only at *); (have := h2.n; have := h2.a; have := h2.b; omega))⟩,
(x7 + (1 : Nat)),
(by (try dsimp only at *); omega),
(by (try dsimp only at *); omega),
⟨(by (try dsimp only at *); omega),
(by (try dsimp only at *); (simp only [Nat.zero_add, Int.toNat_natCast] at *; rw [minK_succ (by omega)]; rw [if_neg (by omega)])),
⟨rfl,rfl⟩,
⟨rfl,rfl⟩,
⟨rfl,rfl⟩,
⟨rfl,
⟨rfl,rfl⟩,trivial⟩,
⟨rfl,rfl⟩,
⟨rfl,rfl⟩,
⟨rfl,rfl⟩,
⟨rfl,
⟨rfl,rfl⟩,trivial⟩,rfl,
⟨rfl,rfl⟩,
⟨rfl,
⟨rfl,rfl⟩,trivial⟩,
⟨rfl,rfl⟩,
⟨rfl,rfl⟩,
⟨rfl,rfl⟩,trivial⟩,
⟨⟨Nat.le_refl _⟩,RowsEq.rfl'⟩,
⟨⟨Nat.le_refl _⟩,RowsEq.rfl'⟩,
⟨rfl,
⟨rfl,rfl⟩,trivial⟩,
⟨⟨Nat.le_refl _⟩,RowsEq.rfl'⟩,
⟨⟨Nat.le_refl _⟩,RowsEq.rfl'⟩,
⟨⟨Nat.le_refl _⟩,RowsEq.rfl'⟩,
⟨⟨Nat.le_refl _⟩,RowsEq.rfl'⟩,trivial⟩⟩,
fun g20 => have h20 := of_decide_eq_false g20; ⟨((0 : Nat)),
⟨(by (try dsimp only at *); omega),
⟨(by (try dsimp only at *); omega),
(by (try dsimp only at *); exact minK_full ‹_› ‹_›),rfl,
⟨rfl,rfl⟩,
⟨rfl,rfl⟩,
⟨rfl,rfl⟩,
⟨rfl,
⟨rfl,rfl⟩,trivial⟩,
⟨rfl,rfl⟩,
⟨rfl,rfl⟩,
⟨rfl,rfl⟩,
⟨rfl,
⟨rfl,rfl⟩,trivial⟩,rfl,
⟨rfl,rfl⟩,
⟨rfl,
⟨rfl,rfl⟩,trivial⟩,
⟨rfl,rfl⟩,
⟨rfl,rfl⟩,
⟨rfl,rfl⟩,trivial⟩,
⟨⟨Nat.le_refl _⟩,RowsEq.rfl'⟩,
⟨⟨Nat.le_refl _⟩,RowsEq.rfl'⟩,
⟨rfl,
⟨rfl,rfl⟩,trivial⟩,
⟨⟨Nat.le_refl _⟩,RowsEq.rfl'⟩,
⟨⟨Nat.le_refl _⟩,RowsEq.rfl'⟩,
⟨⟨Nat.le_refl _⟩,RowsEq.rfl'⟩,
⟨⟨Nat.le_refl _⟩,RowsEq.rfl'⟩,trivial⟩,
fun x22 => fun h23 => ⟨fun g24 => have h24 := of_decide_eq_true g24; ⟨⟨(by (try dsimp only at *); omega),
(by (try dsimp only at *); omega)⟩,
(by (try dsimp only at *); omega),
fun g25 => have h25 := of_decide_eq_true g25; ⟨⟨(by (try dsimp only at *); omega),
(by (try dsimp only at *); omega)⟩,
(by (try dsimp only at *); omega),
fun g26 => have h26 := of_decide_eq_true g26; ⟨⟨(by (try dsimp only at *); omega),
(by (try dsimp only at *); omega)⟩,
(by (try dsimp only at *); omega),
⟨(by (try dsimp only at *); omega),
(by (try dsimp only at *); omega)⟩,
(by (try dsimp only at *); omega),
fun g27 => have h27 := of_decide_eq_true g27; ⟨⟨(by (try dsimp only at *); omega),
(by (try dsimp only at *); omega)⟩,
(by (try dsimp only at *); omega),
⟨(by (try dsimp only at *); omega),
(by (try dsimp only at *); omega)⟩,
(by (try dsimp only at *); omega),
⟨(by (try dsimp only at *); omega),
(by (try dsimp only at *); (have := h2.n; have := h2.a; have := h2.b; omega))⟩,
(x22 + (1 : Nat)),
(by (try dsimp only at *); omega),
(by (try dsimp only at *); omega),
⟨(by (try dsimp only at *); omega),
(by (try dsimp only at *); (simp only [Nat.zero_add, Int.toNat_natCast] at *; rw [minK_succ (by omega)]; rw [if_pos (by omega)]; omega)),rfl,
⟨rfl,rfl⟩,
⟨rfl,rfl⟩,
⟨rfl,rfl⟩,
⟨rfl,
⟨rfl,rfl⟩,trivial⟩,
⟨rfl,rfl⟩,
⟨rfl,rfl⟩,
⟨rfl,rfl⟩,
⟨rfl,
⟨rfl,rfl⟩,trivial⟩,rfl,
⟨rfl,rfl⟩,
⟨rfl,
⟨rfl,rfl⟩,trivial⟩,
⟨rfl,rfl⟩,
⟨rfl,rfl⟩,
⟨rfl,rfl⟩,trivial⟩,
⟨⟨Nat.le_refl _⟩,RowsEq.rfl'⟩,
⟨⟨Nat.le_refl _⟩,RowsEq.rfl'⟩,
⟨rfl,
⟨rfl,rfl⟩,trivial⟩,
⟨⟨Nat.le_refl _⟩,RowsEq.rfl'⟩,
⟨⟨Nat.le_refl _⟩,RowsEq.rfl'⟩,
⟨⟨Nat.le_refl _⟩,RowsEq.rfl'⟩,
⟨⟨Nat.le_refl _⟩,RowsEq.rfl'⟩,trivial⟩,
fun g29 => have h29 := of_decide_eq_false g29; ⟨⟨(by (try dsimp only at *); omega),
(by (try dsimp only at *); (have := h2.n; have := h2.a; have := h2.b; omega))⟩,
(x22 + (1 : Nat)),
(by (try dsimp only at *); omega),
(by (try dsimp only at *); omega),
⟨(by (try dsimp only at *); omega),
(by (try dsimp only at *); (simp only [Nat.zero_add, Int.toNat_natCast] at *; rw [minK_succ (by omega)]; rw [if_pos (by omega)]; omega)),rfl,
⟨rfl,rfl⟩,
⟨rfl,rfl⟩,
⟨rfl,rfl⟩,
⟨rfl,
⟨rfl,rfl⟩,trivial⟩,
⟨rfl,rfl⟩,
⟨rfl,rfl⟩,
⟨rfl,rfl⟩,
⟨rfl,
⟨rfl,rfl⟩,trivial⟩,rfl,
⟨rfl,rfl⟩,
⟨rfl,
⟨rfl,rfl⟩,trivial⟩,
⟨rfl,rfl⟩,
⟨rfl,rfl⟩,
⟨rfl,rfl⟩,trivial⟩,
⟨⟨Nat.le_refl _⟩,RowsEq.rfl'⟩,
⟨⟨Nat.le_refl _⟩,RowsEq.rfl'⟩,
⟨rfl,
⟨rfl,rfl⟩,trivial⟩,
⟨⟨Nat.le_refl _⟩,RowsEq.rfl'⟩,
⟨⟨Nat.le_refl _⟩,RowsEq.rfl'⟩,
⟨⟨Nat.le_refl _⟩,RowsEq.rfl'⟩,
⟨⟨Nat.le_refl _⟩,RowsEq.rfl'⟩,trivial⟩⟩,
fun g31 => have h31 := of_decide_eq_false g31; ⟨⟨(by (try dsimp only at *); omega),
(by (try dsimp only at *); (have := h2.n; have := h2.a; have := h2.b; omega))⟩,
(x22 + (1 : Nat)),
(by (try dsimp only at *); omega),
(by (try dsimp only at *); omega),
⟨(by (try dsimp only at *); omega),
(by (try dsimp only at *); (simp only [Nat.zero_add, Int.toNat_natCast] at *; rw [minK_succ (by omega)]; rw [if_neg (by omega)])),rfl,
⟨rfl,rfl⟩,
⟨rfl,rfl⟩,
⟨rfl,rfl⟩,
⟨rfl,
⟨rfl,rfl⟩,trivial⟩,
⟨rfl,rfl⟩,
⟨rfl,rfl⟩,
⟨rfl,rfl⟩,
⟨rfl,
⟨rfl,rfl⟩,trivial⟩,rfl,
⟨rfl,rfl⟩,
⟨rfl,
⟨rfl,rfl⟩,trivial⟩,
⟨rfl,rfl⟩,
⟨rfl,rfl⟩,
⟨rfl,rfl⟩,trivial⟩,
⟨⟨Nat.le_refl _⟩,RowsEq.rfl'⟩,
⟨⟨Nat.le_refl _⟩,RowsEq.rfl'⟩,
⟨rfl,
⟨rfl,rfl⟩,trivial⟩,
⟨⟨Nat.le_refl _⟩,RowsEq.rfl'⟩,
⟨⟨Nat.le_refl _⟩,RowsEq.rfl'⟩,
⟨⟨Nat.le_refl _⟩,RowsEq.rfl'⟩,
⟨⟨Nat.le_refl _⟩,RowsEq.rfl'⟩,trivial⟩⟩,
fun g33 => have h33 := of_decide_eq_false g33; ⟨⟨(by (try dsimp only at *); omega),
(by (try dsimp only at *); (have := h2.n; have := h2.a; have := h2.b; omega))⟩,
(x22 + (1 : Nat)),
(by (try dsimp only at *); omega),
(by (try dsimp only at *); omega),
⟨(by (try dsimp only at *); omega),
(by (try dsimp only at *); (simp only [Nat.zero_add, Int.toNat_natCast] at *; rw [minK_succ (by omega)]; rw [if_neg (by omega)])),rfl,
⟨rfl,rfl⟩,
⟨rfl,rfl⟩,
⟨rfl,rfl⟩,
⟨rfl,
⟨rfl,rfl⟩,trivial⟩,
⟨rfl,rfl⟩,
⟨rfl,rfl⟩,
⟨rfl,rfl⟩,
⟨rfl,
⟨rfl,rfl⟩,trivial⟩,rfl,
⟨rfl,rfl⟩,
⟨rfl,
⟨rfl,rfl⟩,trivial⟩,
⟨rfl,rfl⟩,
⟨rfl,rfl⟩,
⟨rfl,rfl⟩,trivial⟩,
⟨⟨Nat.le_refl _⟩,RowsEq.rfl'⟩,
⟨⟨Nat.le_refl _⟩,RowsEq.rfl'⟩,
⟨rfl,
⟨rfl,rfl⟩,trivial⟩,
⟨⟨Nat.le_refl _⟩,RowsEq.rfl'⟩,
⟨⟨Nat.le_refl _⟩,RowsEq.rfl'⟩,
⟨⟨Nat.le_refl _⟩,RowsEq.rfl'⟩,
⟨⟨Nat.le_refl _⟩,RowsEq.rfl'⟩,trivial⟩⟩,
fun g35 => have h35 := of_decide_eq_false g35; ⟨(by (try dsimp only at *); (rw [gap_eq h2.g]; unfold gapR INF; exact minK_full ‹_› ‹_›)),trivial⟩⟩⟩⟩⟩)
theorem qgap_good : Good Try.prog 13 qgapC /\ FnOk Try.prog 13 := good_of tok conUc (fn := Try.f13) rfl (by decide +kernel) (fun _ => rfl) qgap_keeps
structure NEx where
 g : Gr
 ts : List Int
 x : Inc
 y : Inc
 near : Int
 win : Int
structure NEok (x : NEx) : Prop where
 g : GOk x.g
 n : x.g.n <= 12
 xn : x.x.nodes.length <= 1048576
 yn : x.y.nodes.length <= 1048576
 xc : x.x.code.size <= 1073741824
 yc : x.y.code.size <= 1073741824
def nearC : CT where
 X := NEx
 pre := NEok
 args := fun x => [.agg [.i .i64 x.g.n, .sl 100000 0 x.g.es.length], .sl 100001 0 x.ts.length, incA x.x 100002 100003 100004, incA x.y 100005 100006 100007, .i .i64 x.near, .i .i64 x.win]
 g0 := fun x => [(100000, .rows .bor kE x.g.es.length (encL encE x.g.es)), (100001, .rows .bor k1 x.ts.length (encL encI x.ts))] ++ incH x.x 100002 100003 100004 ++ incH x.y 100005 100006 100007
 res := fun x => .b (nearB x.g x.ts x.x x.y x.near x.win)
 g1 := fun _ => []
def cfgUd : Cfg := ⟨T, [], [(43, .one elC), (13, .one qgapC), (44, .one kinC), (29, .one neverC0)], noInv, 20, {}⟩
theorem conUd : ConOk Try.prog cfgUd := ConL.ok (.cons (ConL.one ago_good) (.cons (ConL.one qgap_good) (.cons (ConL.one kin_good) (.cons (ConL.one xnever_good) .nil))))
theorem el_rng (a b : Int) : 0 <= el a b /\ el a b <= 4611686018427387904 := by have := cl_rng a; have := cl_rng b; unfold el; omega
theorem el_add (a b : Int) : el a b + el b a <= 9223372036854775807 := by rw [apart_eq]; have := el_rng (max a b) (min a b); unfold apart; omega
theorem el_add2 (a b : Int) : -9223372036854775808 <= el a b + el b a := by have := el_rng a b; have := el_rng b a; omega
theorem near_1 {x : NEx} (h1 : kin x.x.code x.y.code = true) (h2 : el x.x.since x.y.since + el x.y.since x.x.since <= x.win) (h3 : gapP x.g x.ts x.x.nodes x.y.nodes <= x.near) : decide (gapP x.g x.ts x.x.nodes x.y.nodes < 4611686018427387904) = nearB x.g x.ts x.x x.y x.near x.win := by
 rw [apart_eq] at h2; unfold nearB wthin; simp [h1, h2, h3]
theorem near_2 {x : NEx} (h3 : ¬ gapP x.g x.ts x.x.nodes x.y.nodes <= x.near) : false = nearB x.g x.ts x.x x.y x.near x.win := by unfold nearB wthin; simp [h3]
theorem near_3 {x : NEx} (h2 : ¬ el x.x.since x.y.since + el x.y.since x.x.since <= x.win) : false = nearB x.g x.ts x.x x.y x.near x.win := by rw [apart_eq] at h2; unfold nearB; simp [h2]
theorem near_4 {x : NEx} (h1 : kin x.x.code x.y.code = false) : false = nearB x.g x.ts x.x x.y x.near x.win := by unfold nearB; simp [h1]
set_option maxRecDepth 100000 in
theorem near_keeps : Keeps cfgUd Try.f34 nearC noIv := Eq.mp (show ((∀ x1 : NEx, ((NEok x1)-> (∃ x3 : IIx, (True/\((x1.x.since = x3.a/\(x1.y.since = x3.b/\True))/\(True/\(∃ x4 : IIx, (True/\((x1.y.since = x4.a/\(x1.x.since = x4.b/\True))/\(True/\((((-9223372036854775808 : Int) <= el x3.a x3.b + el x4.a x4.b)/\(el x3.a x3.b + el x4.a x4.b <= (9223372036854775807 : Int)))/\(∃ x5 : GAx, ((GAok x5)/\(((((x1.g.n : Int) = (x5.g.n : Int))/\((0=0 /\ x1.g.es.length = x5.g.es.length)/\True))/\((0=0 /\ x1.ts.length = x5.ts.length)/\((0=0 /\ x1.x.nodes.length = x5.a.length)/\((0=0 /\ x1.y.nodes.length = x5.b.length)/\True))))/\((((RLe x5.g.es.length x1.g.es.length)/\(RowsEq [.int .i64, .int .i64, .int .i64] x5.g.es.length (encL encE x1.g.es) (encL encE x5.g.es)))/\(((RLe x5.ts.length x1.ts.length)/\(RowsEq [.int .i64] x5.ts.length (encL encI x1.ts) (encL encI x5.ts)))/\(((RLe x5.a.length x1.x.nodes.length)/\(RowsEq [.int .i64] x5.a.length (encL encI x1.x.nodes) (encL encI x5.a)))/\(((RLe x5.b.length x1.y.nodes.length)/\(RowsEq [.int .i64] x5.b.length (encL encI x1.y.nodes) (encL encI x5.b)))/\True))))/\(∃ x6 : SSx, (((ByteArray.size x6.a <= (1073741824 : Nat))/\(ByteArray.size x6.b <= (1073741824 : Nat)))/\((x1.x.code = x6.a/\(x1.y.code = x6.b/\True))/\(True/\(((kin x6.a x6.b = true)-> (((decide (el x3.a x3.b + el x4.a x4.b <= x1.win) = true)-> (((decide (gapP x5.g x5.ts x5.a x5.b <= x1.near) = true)-> (∃ x10 : Unit, (True/\(True/\(True/\((decide (gapP x5.g x5.ts x5.a x5.b < (4611686018427387904 : Int)) = nearB x1.g x1.ts x1.x x1.y x1.near x1.win)/\True))))))/\((decide (gapP x5.g x5.ts x5.a x5.b <= x1.near) = false)-> ((false = nearB x1.g x1.ts x1.x x1.y x1.near x1.win)/\True))))/\((decide (el x3.a x3.b + el x4.a x4.b <= x1.win) = false)-> ((false = nearB x1.g x1.ts x1.x x1.y x1.near x1.win)/\True))))/\((kin x6.a x6.b = false)-> ((false = nearB x1.g x1.ts x1.x x1.y x1.near x1.win)/\True))))))))))))))))))))))) = (Keeps cfgUd Try.f34 nearC noIv) by kernel_rfl) (fun x1 => fun h2 => ⟨({ a := Inc.since (NEx.x x1), b := Inc.since (NEx.y x1) : IIx }),trivial,
⟨rfl,rfl,trivial⟩,trivial,
({ a := Inc.since (NEx.y x1), b := Inc.since (NEx.x x1) : IIx }),trivial,
⟨rfl,rfl,trivial⟩,trivial,
⟨(by (try dsimp only at *); exact el_add2 _ _),
(by (try dsimp only at *); exact el_add _ _)⟩,
({ g := NEx.g x1, ts := NEx.ts x1, a := Inc.nodes (NEx.x x1), b := Inc.nodes (NEx.y x1) : GAx }),
(by (try dsimp only at *); exact ⟨h2.g, h2.n, h2.xn, h2.yn⟩),
⟨⟨rfl,
⟨rfl,rfl⟩,trivial⟩,
⟨rfl,rfl⟩,
⟨rfl,rfl⟩,
⟨rfl,rfl⟩,trivial⟩,
⟨⟨⟨Nat.le_refl _⟩,RowsEq.rfl'⟩,
⟨⟨Nat.le_refl _⟩,RowsEq.rfl'⟩,
⟨⟨Nat.le_refl _⟩,RowsEq.rfl'⟩,
⟨⟨Nat.le_refl _⟩,RowsEq.rfl'⟩,trivial⟩,
({ a := Inc.code (NEx.x x1), b := Inc.code (NEx.y x1) : SSx }),
⟨(by (try dsimp only at *); exact h2.xc),
(by (try dsimp only at *); exact h2.yc)⟩,
⟨rfl,rfl,trivial⟩,trivial,
fun h7 => ⟨fun g8 => have h8 := of_decide_eq_true g8; ⟨fun g9 => have h9 := of_decide_eq_true g9; ⟨(default),trivial,trivial,trivial,
(by (try dsimp only at *); exact near_1 ‹_› ‹_› ‹_›),trivial⟩,
fun g11 => have h11 := of_decide_eq_false g11; ⟨(by (try dsimp only at *); exact near_2 ‹_›),trivial⟩⟩,
fun g12 => have h12 := of_decide_eq_false g12; ⟨(by (try dsimp only at *); exact near_3 ‹_›),trivial⟩⟩,
fun h13 => ⟨(by (try dsimp only at *); exact near_4 ‹_›),trivial⟩⟩)
theorem near_good : Good Try.prog 34 nearC /\ FnOk Try.prog 34 := good_of tok conUd (fn := Try.f34) rfl (by decide +kernel) (fun _ => rfl) near_keeps
def alikeC : CT where
 X := SIx
 pre := SIok
 args := fun x => [.agg [.i .i64 x.g.n, .sl 100000 0 x.g.es.length], .sl 100001 0 x.ts.length, incA x.x 100002 100003 100004, calA x.t 100005, .i .i64 x.near, .i .i64 x.win]
 g0 := fun x => [(100000, .rows .bor kE x.g.es.length (encL encE x.g.es)), (100001, .rows .bor k1 x.ts.length (encL encI x.ts))] ++ incH x.x 100002 100003 100004 ++ calH x.t 100005
 res := fun x => .b (simB x.g x.ts x.x (ofT x.t) x.near x.win)
 g1 := fun _ => []
def cfgUe : Cfg := ⟨T, [], [(33, .one openC), (18, .one ofC), (34, .one nearC)], noInv, 20, {}⟩
theorem conUe : ConOk Try.prog cfgUe := ConL.ok (.cons (ConL.one xopen_good) (.cons (ConL.one xof_good) (.cons (ConL.one near_good) .nil)))
theorem alike_1 {x : SIx} (h : opn x.x = true) : nearB x.g x.ts x.x (ofT x.t) x.near x.win = simB x.g x.ts x.x (ofT x.t) x.near x.win := by unfold simB; rw [h]; rfl
set_option maxRecDepth 100000 in
theorem alike_keeps : Keeps cfgUe Try.f16 alikeC noIv := Eq.mp (show ((∀ x1 : SIx, ((SIok x1)-> (∃ x3 : Inc, (True/\(((x1.x.id = x3.id/\(x1.x.urg = x3.urg/\(x1.x.code = x3.code/\((0=0 /\ x1.x.nodes.length = x3.nodes.length)/\(x1.x.dis = x3.dis/\(x1.x.since = x3.since/\((0=0 /\ x1.x.calls.length = x3.calls.length)/\((0=0 /\ x1.x.units.length = x3.units.length)/\(x1.x.merged = x3.merged/\(x1.x.closed = x3.closed/\True))))))))))/\True)/\((((RLe x3.nodes.length x1.x.nodes.length)/\(RowsEq [.int .i64] x3.nodes.length (encL encI x1.x.nodes) (encL encI x3.nodes)))/\(((RLe x3.calls.length x1.x.calls.length)/\(RowsEq [.int .i64] x3.calls.length (encL encI x1.x.calls) (encL encI x3.calls)))/\(((RLe x3.units.length x1.x.units.length)/\(RowsEq [.int .i64] x3.units.length (encL encI x1.x.units) (encL encI x3.units)))/\True)))/\(((opn x3 = true)-> (∃ x5 : Cal, (True/\(((x1.t.call = x5.call/\(x1.t.inc = x5.inc/\(x1.t.urg = x5.urg/\(x1.t.code = x5.code/\((0=0 /\ x1.t.nodes.length = x5.nodes.length)/\(x1.t.dis = x5.dis/\(x1.t.since = x5.since/\(x1.t.closed = x5.closed/\True))))))))/\True)/\((((RLe x5.nodes.length x1.t.nodes.length)/\(RowsEq [.int .i64] x5.nodes.length (encL encI x1.t.nodes) (encL encI x5.nodes)))/\True)/\(∃ x6 : NEx, ((NEok x6)/\(((((x1.g.n : Int) = (x6.g.n : Int))/\((0=0 /\ x1.g.es.length = x6.g.es.length)/\True))/\((0=0 /\ x1.ts.length = x6.ts.length)/\((x1.x.id = x6.x.id/\(x1.x.urg = x6.x.urg/\(x1.x.code = x6.x.code/\((0=0 /\ x1.x.nodes.length = x6.x.nodes.length)/\(x1.x.dis = x6.x.dis/\(x1.x.since = x6.x.since/\((0=0 /\ x1.x.calls.length = x6.x.calls.length)/\((0=0 /\ x1.x.units.length = x6.x.units.length)/\(x1.x.merged = x6.x.merged/\(x1.x.closed = x6.x.closed/\True))))))))))/\((0 = x6.y.id/\(0 = x6.y.urg/\(x5.code = x6.y.code/\((0=0 /\ x5.nodes.length = x6.y.nodes.length)/\(0 = x6.y.dis/\(x5.since = x6.y.since/\((True/\(0=0/\(x6.y.calls.length = (0 : Nat))))/\((True/\(0=0/\(x6.y.units.length = (0 : Nat))))/\(0 = x6.y.merged/\(false = x6.y.closed/\True))))))))))/\(x1.near = x6.near/\(x1.win = x6.win/\True))))))/\((((RLe x6.g.es.length x1.g.es.length)/\(RowsEq [.int .i64, .int .i64, .int .i64] x6.g.es.length (encL encE x1.g.es) (encL encE x6.g.es)))/\(((RLe x6.ts.length x1.ts.length)/\(RowsEq [.int .i64] x6.ts.length (encL encI x1.ts) (encL encI x6.ts)))/\(((RLe x6.x.nodes.length x1.x.nodes.length)/\(RowsEq [.int .i64] x6.x.nodes.length (encL encI x1.x.nodes) (encL encI x6.x.nodes)))/\(((RLe x6.x.calls.length x1.x.calls.length)/\(RowsEq [.int .i64] x6.x.calls.length (encL encI x1.x.calls) (encL encI x6.x.calls)))/\(((RLe x6.x.units.length x1.x.units.length)/\(RowsEq [.int .i64] x6.x.units.length (encL encI x1.x.units) (encL encI x6.x.units)))/\(((RLe x6.y.nodes.length x1.t.nodes.length)/\(RowsEq [.int .i64] x6.y.nodes.length (encL encI x1.t.nodes) (encL encI x6.y.nodes)))/\((x6.y.calls.length = (0 : Nat))/\((x6.y.units.length = (0 : Nat))/\True))))))))/\((nearB x6.g x6.ts x6.x x6.y x6.near x6.win = simB x1.g x1.ts x1.x (ofT x1.t) x1.near x1.win)/\True))))))))))/\((opn x3 = false)-> ((false = simB x1.g x1.ts x1.x (ofT x1.t) x1.near x1.win)/\True)))))))))) = (Keeps cfgUe Try.f16 alikeC noIv) by kernel_rfl) (fun x1 => fun h2 => ⟨(SIx.x x1),trivial,
⟨⟨rfl,rfl,rfl,
⟨rfl,rfl⟩,rfl,rfl,
⟨rfl,rfl⟩,
⟨rfl,rfl⟩,rfl,rfl,trivial⟩,trivial⟩,
⟨⟨⟨Nat.le_refl _⟩,RowsEq.rfl'⟩,
⟨⟨Nat.le_refl _⟩,RowsEq.rfl'⟩,
⟨⟨Nat.le_refl _⟩,RowsEq.rfl'⟩,trivial⟩,
fun h4 => ⟨(SIx.t x1),trivial,
⟨⟨rfl,rfl,rfl,rfl,
⟨rfl,rfl⟩,rfl,rfl,rfl,trivial⟩,trivial⟩,
⟨⟨⟨Nat.le_refl _⟩,RowsEq.rfl'⟩,trivial⟩,
({ g := SIx.g x1, ts := SIx.ts x1, x := SIx.x x1, y := { id := (0 : Int), urg := (0 : Int), code := Cal.code (SIx.t x1), nodes := Cal.nodes (SIx.t x1), dis := (0 : Int), since := Cal.since (SIx.t x1), calls := default, units := default, merged := (0 : Int), closed := false : Inc }, near := SIx.near x1, win := SIx.win x1 : NEx }),
(by (try dsimp only at *); exact ⟨h2.g, h2.n, h2.xn, h2.tn, h2.xc, h2.tc⟩),
⟨⟨rfl,
⟨rfl,rfl⟩,trivial⟩,
⟨rfl,rfl⟩,
⟨rfl,rfl,rfl,
⟨rfl,rfl⟩,rfl,rfl,
⟨rfl,rfl⟩,
⟨rfl,rfl⟩,rfl,rfl,trivial⟩,
⟨rfl,rfl,rfl,
⟨rfl,rfl⟩,rfl,rfl,
⟨trivial,rfl,
(by (try dsimp only at *); rfl)⟩,
⟨trivial,rfl,
(by (try dsimp only at *); rfl)⟩,rfl,rfl,trivial⟩,rfl,rfl,trivial⟩,
⟨⟨⟨Nat.le_refl _⟩,RowsEq.rfl'⟩,
⟨⟨Nat.le_refl _⟩,RowsEq.rfl'⟩,
⟨⟨Nat.le_refl _⟩,RowsEq.rfl'⟩,
⟨⟨Nat.le_refl _⟩,RowsEq.rfl'⟩,
⟨⟨Nat.le_refl _⟩,RowsEq.rfl'⟩,
⟨⟨Nat.le_refl _⟩,RowsEq.rfl'⟩,
(by (try dsimp only at *); rfl),
(by (try dsimp only at *); rfl),trivial⟩,
(by (try dsimp only at *); exact alike_1 (x := x1) ‹_›),trivial⟩,
fun h7 => ⟨(by (try dsimp only at *); (simp_all [simB])),trivial⟩⟩)
theorem alike_good : Good Try.prog 16 alikeC /\ FnOk Try.prog 16 := good_of tok conUe (fn := Try.f16) rfl (by decide +kernel) (fun _ => rfl) alike_keeps
end Go.Sym