import Derived.Test.YtmomlgnnbpkgcaaU4
import Derived.Test.YtmomlgnnbpkgcaaXD
namespace Go.Sym
set_option linter.unusedVariables false
set_option linter.unusedSimpArgs false
open Go.Proofs
set_option maxHeartbeats 4000000
structure Cal where
 call : Int
 inc : Int
 urg : Int
 code : ByteArray
 nodes : List Int
 dis : Int
 since : Int
 closed : Bool
def calA (t : Cal) (l : Nat) : SV := .agg [.i .i64 t.call, .i .i64 t.inc, .i .i64 t.urg, .s t.code, .sl l 0 t.nodes.length, .i .i64 t.dis, .i .i64 t.since, .b t.closed]
def calH (t : Cal) (l : Nat) : List (Nat × Blk) := [(l, .rows .bor k1 t.nodes.length (encL encI t.nodes))]
def ofT (t : Cal) : Inc := ⟨0, 0, t.code, t.nodes, 0, t.since, [], [], 0, false⟩
def nearB (g : Gr) (ts : List Int) (x y : Inc) (near win : Int) : Bool := kin x.code y.code && decide (apart x.since y.since <= win) && wthin (gapP g ts x.nodes y.nodes) near
def simB (g : Gr) (ts : List Int) (x y : Inc) (near win : Int) : Bool := opn x && nearB g ts x y near win
structure SIx where
 g : Gr
 ts : List Int
 x : Inc
 t : Cal
 near : Int
 win : Int
structure SIok (x : SIx) : Prop where
 g : GOk x.g
 n : x.g.n <= 12
 xn : x.x.nodes.length <= 1048576
 tn : x.t.nodes.length <= 1048576
 xc : x.x.code.size <= 1073741824
 tc : x.t.code.size <= 1073741824
def simC : CT where
 X := SIx
 pre := SIok
 args := fun x => [.p 100000 0 0, .sl 100001 0 x.ts.length, incA x.x 100002 100003 100004, calA x.t 100005, .i .i64 x.near, .i .i64 x.win]
 g0 := fun x => graphH x.g 100000 ++ [(100001, .rows .bor k1 x.ts.length (encL encI x.ts))] ++ incH x.x 100002 100003 100004 ++ calH x.t 100005
 res := fun x => .b (simB x.g x.ts x.x (ofT x.t) x.near x.win)
 g1 := fun _ => []
def cfgUb : Cfg := ⟨T, [], [(30, .one openC), (25, .one kinC), (31, .one stimeC), (11, .one gapC), (32, .one withinC)], noInv, 20, {}⟩
theorem conUb : ConOk Try.prog cfgUb := ConL.ok (.cons (ConL.one open_good) (.cons (ConL.one zsame_good) (.cons (ConL.one stime_good) (.cons (ConL.one gap_good) (.cons (ConL.one zwithin_good) .nil)))))
theorem sim_3 {x : SIx} (h : ¬ apart x.x.since x.t.since <= x.win) : false = simB x.g x.ts x.x (ofT x.t) x.near x.win := by unfold simB nearB; simp [ofT, h]
set_option maxRecDepth 100000 in
theorem sim_keeps : Keeps cfgUb Try.f15 simC noIv := Eq.mp (show ((∀ x1 : SIx, ((SIok x1)-> (∃ x3 : Inc, (True/\(((x1.x.id = x3.id/\(x1.x.urg = x3.urg/\(x1.x.code = x3.code/\((0=0 /\ x1.x.nodes.length = x3.nodes.length)/\(x1.x.dis = x3.dis/\(x1.x.since = x3.since/\((0=0 /\ x1.x.calls.length = x3.calls.length)/\((0=0 /\ x1.x.units.length = x3.units.length)/\(x1.x.merged = x3.merged/\(x1.x.closed = x3.closed/\True))))))))))/\True)/\((((RLe x3.nodes.length x1.x.nodes.length)/\(RowsEq [.int .i64] x3.nodes.length (encL encI x1.x.nodes) (encL encI x3.nodes)))/\(((RLe x3.calls.length x1.x.calls.length)/\(RowsEq [.int .i64] x3.calls.length (encL encI x1.x.calls) (encL encI x3.calls)))/\(((RLe x3.units.length x1.x.units.length)/\(RowsEq [.int .i64] x3.units.length (encL encI x1.x.units) (encL encI x3.units)))/\True)))/\((((!opn x3) = false)-> (∃ x5 : SSx, (((ByteArray.size x5.a <= (1073741824 : Nat))/\(ByteArray.size x5.b <= (1073741824 : Nat)))/\((x1.x.code = x5.a/\(x1.t.code = x5.b/\True))/\(True/\((((!kin x5.a x5.b) = false)-> (∃ x7 : TWx, (True/\((x1.x.since = x7.a/\(x1.t.since = x7.b/\(x1.win = x7.w/\True)))/\(True/\((((!decide (apart x7.a x7.b <= x7.w)) = true)-> ((false = simB x1.g x1.ts x1.x (ofT x1.t) x1.near x1.win)/\True))/\(((!decide (apart x7.a x7.b <= x7.w)) = false)-> (∃ x10 : GAx, ((GAok x10)/\(((0=0 /\ 0=0)/\((0=0 /\ x1.ts.length = x10.ts.length)/\((0=0 /\ x1.x.nodes.length = x10.a.length)/\((0=0 /\ x1.t.nodes.length = x10.b.length)/\True))))/\(((RLe 1 1/\(RowsEq [.sl [.int .i64, .int .i64, .int .i64], .sl [.sl [.int .i64]], .sl [.sl [.int .i64]]] 1 (encG x1.g) (encG x10.g)))/\(((RLe x10.ts.length x1.ts.length)/\(RowsEq [.int .i64] x10.ts.length (encL encI x1.ts) (encL encI x10.ts)))/\(((RLe x10.a.length x1.x.nodes.length)/\(RowsEq [.int .i64] x10.a.length (encL encI x1.x.nodes) (encL encI x10.a)))/\(((RLe x10.b.length x1.t.nodes.length)/\(RowsEq [.int .i64] x10.b.length (encL encI x1.t.nodes) (encL encI x10.b)))/\True))))/\(∃ x11 : IIx, (True/\(((gapP x10.g x10.ts x10.a x10.b = x11.a)/\(x1.near = x11.b/\True))/\(True/\((wthin x11.a x11.b = simB x1.g x1.ts x1.x (ofT x1.t) x1.near x1.win)/\True))))))))))))))))/\(((!kin x5.a x5.b) = true)-> ((false = simB x1.g x1.ts x1.x (ofT x1.t) x1.near x1.win)/\True))))))))/\(((!opn x3) = true)-> ((false = simB x1.g x1.ts x1.x (ofT x1.t) x1.near x1.win)/\True)))))))))) = (Keeps cfgUb Try.f15 simC noIv) by kernel_rfl) (fun x1 => fun h2 => ⟨(SIx.x x1),trivial,
⟨⟨rfl,rfl,rfl,
⟨rfl,rfl⟩,rfl,rfl,
⟨rfl,rfl⟩,
⟨rfl,rfl⟩,rfl,rfl,trivial⟩,trivial⟩,
⟨⟨⟨Nat.le_refl _⟩,RowsEq.rfl'⟩,
⟨⟨Nat.le_refl _⟩,RowsEq.rfl'⟩,
⟨⟨Nat.le_refl _⟩,RowsEq.rfl'⟩,trivial⟩,
fun h4 => ⟨({ a := Inc.code (SIx.x x1), b := Cal.code (SIx.t x1) : SSx }),
⟨(by (try dsimp only at *); exact h2.xc),
(by (try dsimp only at *); exact h2.tc)⟩,
⟨rfl,rfl,trivial⟩,trivial,
fun h6 => ⟨({ a := Inc.since (SIx.x x1), b := Cal.since (SIx.t x1), w := SIx.win x1 : TWx }),trivial,
⟨rfl,rfl,rfl,trivial⟩,trivial,
fun g8 => have h8 := of_not_decide_true g8; ⟨(by (try dsimp only at *); exact sim_3 (x := x1) ‹_›),trivial⟩,
fun g9 => have h9 := of_not_decide_false g9; ⟨({ g := SIx.g x1, ts := SIx.ts x1, a := Inc.nodes (SIx.x x1), b := Cal.nodes (SIx.t x1) : GAx }),
(by (try dsimp only at *); exact ⟨h2.g, h2.n, h2.xn, h2.tn⟩),
⟨⟨rfl,rfl⟩,
⟨rfl,rfl⟩,
⟨rfl,rfl⟩,
⟨rfl,rfl⟩,trivial⟩,
⟨⟨⟨Nat.le_refl _⟩,RowsEq.rfl'⟩,
⟨⟨Nat.le_refl _⟩,RowsEq.rfl'⟩,
⟨⟨Nat.le_refl _⟩,RowsEq.rfl'⟩,
⟨⟨Nat.le_refl _⟩,RowsEq.rfl'⟩,trivial⟩,
({ a := gapP (SIx.g x1) (SIx.ts x1) (Inc.nodes (SIx.x x1)) (Cal.nodes (SIx.t x1)), b := SIx.near x1 : IIx }),trivial,
⟨rfl,rfl,trivial⟩,trivial,
(by (try dsimp only at *); (simp_all [simB, nearB, ofT])),trivial⟩⟩,
fun h12 => ⟨(by (try dsimp only at *); (simp_all [simB, nearB, ofT])),trivial⟩⟩,
fun h13 => ⟨(by (try dsimp only at *); (simp_all [simB, nearB, ofT])),trivial⟩⟩)
theorem sim_good : Good Try.prog 15 simC /\ FnOk Try.prog 15 := good_of tok conUb (fn := Try.f15) rfl (by decide +kernel) (fun _ => rfl) sim_keeps
def ofC : CT where
 X := Cal
 pre := fun _ => True
 args := fun t => [calA t 100000]
 g0 := fun t => calH t 100000
 res := fun t => .agg [.i .i64 0, .i .i64 0, .s t.code, .sl 100000 0 t.nodes.length, .i .i64 0, .i .i64 t.since, .ns, .ns, .i .i64 0, .bt false]
 g1 := fun _ => []
set_option maxRecDepth 100000 in
theorem of_keeps : Keeps cfgN0 Try.f18 ofC noIv := Eq.mp (show ((∀ x1 : Cal, (True -> ((((0 : Int) = 0)/\(((0 : Int) = 0)/\(x1.code = x1.code/\((0=0 /\ x1.nodes.length = x1.nodes.length)/\(((0 : Int) = 0)/\(x1.since = x1.since/\(True/\(True/\(((0 : Int) = 0)/\(false = false/\True))))))))))/\True)))) = (Keeps cfgN0 Try.f18 ofC noIv) by kernel_rfl) (fun x1 => fun h2 => ⟨⟨rfl,rfl,rfl,
⟨rfl,rfl⟩,rfl,rfl,trivial,trivial,rfl,rfl,trivial⟩,trivial⟩)
theorem xof_good : Good Try.prog 18 ofC /\ FnOk Try.prog 18 := good_of tok conN0 (fn := Try.f18) rfl (by decide +kernel) (fun _ => rfl) of_keeps
end Go.Sym