import Derived.Test.YtmomlgnnbpkgcaaU9
import Derived.Test.YtmomlgnnbpkgcaaXD
namespace Go.Sym
set_option linter.unusedVariables false
set_option linter.unusedSimpArgs false
open Go.Proofs
set_option maxHeartbeats 4000000
structure S2x where
 t : Twn
 x : ICx
 near : Int
 win : Int
def s2A (x : S2x) : List SV := [twA x.t, icA x.x 100002, .agg [.i .i64 x.near, .i .i64 x.win]]
def s2H (x : S2x) : List (Nat × Blk) := twH x.t ++ icH x.x 100002
def lawS (b : Bool) : CT := ⟨S2x, fun x => True /\ twOk x.t = b, s2A, s2H, fun _ => .b true, fun _ => []⟩
theorem sok {x : S2x} (h : twOk x.t = true) (h2 : (!few2 x.x) = false) (near win : Int) (ts : List Int) : SIok ⟨x.t.g, ts, x.x.x, x.x.t, near, win⟩ := by
 have q := tw_ok h
 have f := few2_ok (notT h2)
 exact ⟨q.g, q.n, by show x.x.x.nodes.length <= _; omega, by show x.x.t.nodes.length <= _; omega, by show x.x.x.code.size <= _; omega, by show x.x.t.code.size <= _; omega⟩
def CS2 (b : CT) : List (Nat × Con) := [(10, .one awakeC), (9, .one b), (12, .one ttimesC), (14, .one few2C), (15, .one simC), (16, .one alikeC)]
def cfgS2y : Cfg := ⟨T, [], CS2 tYesC, noInv, 60, {}⟩
def cfgS2n : Cfg := ⟨T, [], CS2 tNoC, noInv, 60, {}⟩
theorem conS2 {b : CT} (h : Good Try.prog 9 b /\ FnOk Try.prog 9) : ConL Try.prog (CS2 b) := .cons (ConL.one awake_good) (.cons (ConL.one h) (.cons (ConL.one ttimes_good) (.cons (ConL.one few2_good) (.cons (ConL.one sim_good) (.cons (ConL.one alike_good) .nil)))))
theorem conS2y : ConOk Try.prog cfgS2y := ConL.ok (conS2 tYes_good)
theorem conS2n : ConOk Try.prog cfgS2n := ConL.ok (conS2 tNo_good)
set_option maxRecDepth 100000 in
theorem s2_no : Keeps cfgS2n Try.f4 (lawS false) noIv := Eq.mp (show ((∀ x1 : S2x, ((True /\ twOk x1.t = false)-> (∃ x3 : Twn, ((twOk x3 = false)/\(((x1.t.n = x3.n/\((0=0 /\ x1.t.es.length = x3.es.length)/\((0=0 /\ x1.t.ts.length = x3.ts.length)/\True)))/\True)/\((((RLe x3.es.length x1.t.es.length)/\(RowsEq [.int .i64, .int .i64, .int .i64] x3.es.length (encL encE x1.t.es) (encL encE x3.es)))/\(((RLe x3.ts.length x1.t.ts.length)/\(RowsEq [.int .i64] x3.ts.length (encL encI x1.t.ts) (encL encI x3.ts)))/\True))/\(∃ x4 : Unit, (True/\(True/\(True/\((false = false -> (∃ x6 : Unit, (True/\(True/\(True/\(true = true/\True))))))/\(false = true -> (∃ x8 : Unit, (True/\(True/\(True/\(true = true/\True)))))))))))))))))) = (Keeps cfgS2n Try.f4 (lawS false) noIv) by kernel_rfl) (fun x1 => fun h2 => ⟨(S2x.t x1),
(by (try dsimp only at *); grind),
⟨⟨rfl,
⟨rfl,rfl⟩,
⟨rfl,rfl⟩,trivial⟩,trivial⟩,
⟨⟨⟨Nat.le_refl _⟩,RowsEq.rfl'⟩,
⟨⟨Nat.le_refl _⟩,RowsEq.rfl'⟩,trivial⟩,
(()),trivial,trivial,trivial,
fun h5 => ⟨(default),trivial,trivial,trivial,rfl,trivial⟩,
fun h7 => ⟨(default),trivial,trivial,trivial,rfl,trivial⟩⟩)
set_option maxRecDepth 100000 in
theorem s2_yes : Keeps cfgS2y Try.f4 (lawS true) noIv := Eq.mp (show ((∀ x1 : S2x, ((True /\ twOk x1.t = true)-> (∃ x3 : Twn, ((twOk x3 = true)/\(((x1.t.n = x3.n/\((0=0 /\ x1.t.es.length = x3.es.length)/\((0=0 /\ x1.t.ts.length = x3.ts.length)/\True)))/\True)/\((((RLe x3.es.length x1.t.es.length)/\(RowsEq [.int .i64, .int .i64, .int .i64] x3.es.length (encL encE x1.t.es) (encL encE x3.es)))/\(((RLe x3.ts.length x1.t.ts.length)/\(RowsEq [.int .i64] x3.ts.length (encL encI x1.t.ts) (encL encI x3.ts)))/\True))/\(∃ x4 : Unit, (True/\(True/\(True/\((false = false -> (∃ x6 : ICx, (True/\(((x1.x.x.id = x6.x.id/\(x1.x.x.urg = x6.x.urg/\(x1.x.x.code = x6.x.code/\((0=0 /\ x1.x.x.nodes.length = x6.x.nodes.length)/\(x1.x.x.dis = x6.x.dis/\(x1.x.x.since = x6.x.since/\((0=0 /\ x1.x.x.calls.length = x6.x.calls.length)/\((0=0 /\ x1.x.x.units.length = x6.x.units.length)/\(x1.x.x.merged = x6.x.merged/\(x1.x.x.closed = x6.x.closed/\(x1.x.t.call = x6.t.call/\(x1.x.t.inc = x6.t.inc/\(x1.x.t.urg = x6.t.urg/\(x1.x.t.code = x6.t.code/\((0=0 /\ x1.x.t.nodes.length = x6.t.nodes.length)/\(x1.x.t.dis = x6.t.dis/\(x1.x.t.since = x6.t.since/\(x1.x.t.closed = x6.t.closed/\True))))))))))))))))))/\True)/\((((RLe x6.x.nodes.length x1.x.x.nodes.length)/\(RowsEq [.int .i64] x6.x.nodes.length (encL encI x1.x.x.nodes) (encL encI x6.x.nodes)))/\(((RLe x6.x.calls.length x1.x.x.calls.length)/\(RowsEq [.int .i64] x6.x.calls.length (encL encI x1.x.x.calls) (encL encI x6.x.calls)))/\(((RLe x6.x.units.length x1.x.x.units.length)/\(RowsEq [.int .i64] x6.x.units.length (encL encI x1.x.x.units) (encL encI x6.x.units)))/\(((RLe x6.t.nodes.length x1.x.t.nodes.length)/\(RowsEq [.int .i64] x6.t.nodes.length (encL encI x1.x.t.nodes) (encL encI x6.t.nodes)))/\True))))/\((((!few2 x6) = true)-> (∃ x8 : Unit, (True/\(True/\(True/\(true = true/\True))))))/\(((!few2 x6) = false)-> (∃ x10 : Twn, ((x10.ts.length <= (60 : Nat))/\(((x1.t.n = x10.n/\((0=0 /\ x1.t.es.length = x10.es.length)/\((0=0 /\ x1.t.ts.length = x10.ts.length)/\True)))/\True)/\((((RLe x10.es.length x1.t.es.length)/\(RowsEq [.int .i64, .int .i64, .int .i64] x10.es.length (encL encE x1.t.es) (encL encE x10.es)))/\(((RLe x10.ts.length x1.t.ts.length)/\(RowsEq [.int .i64] x10.ts.length (encL encI x1.t.ts) (encL encI x10.ts)))/\True))/\(∃ x11 : SIx, ((SIok x11)/\(((0=0 /\ 0=0)/\((0=0 /\ x10.ts.length = x11.ts.length)/\((x1.x.x.id = x11.x.id/\(x1.x.x.urg = x11.x.urg/\(x1.x.x.code = x11.x.code/\((0=0 /\ x1.x.x.nodes.length = x11.x.nodes.length)/\(x1.x.x.dis = x11.x.dis/\(x1.x.x.since = x11.x.since/\((0=0 /\ x1.x.x.calls.length = x11.x.calls.length)/\((0=0 /\ x1.x.x.units.length = x11.x.units.length)/\(x1.x.x.merged = x11.x.merged/\(x1.x.x.closed = x11.x.closed/\True))))))))))/\((x1.x.t.call = x11.t.call/\(x1.x.t.inc = x11.t.inc/\(x1.x.t.urg = x11.t.urg/\(x1.x.t.code = x11.t.code/\((0=0 /\ x1.x.t.nodes.length = x11.t.nodes.length)/\(x1.x.t.dis = x11.t.dis/\(x1.x.t.since = x11.t.since/\(x1.x.t.closed = x11.t.closed/\True))))))))/\(x1.near = x11.near/\(x1.win = x11.win/\True))))))/\(((RLe 1 1/\(RowsEq [.sl [.int .i64, .int .i64, .int .i64], .sl [.sl [.int .i64]], .sl [.sl [.int .i64]]] 1 (encG (Gr.mk (Int.toNat x3.n) x3.es)) (encG x11.g)))/\(((RLe x11.ts.length x10.ts.length)/\(RowsEq [.int .i64] x11.ts.length (encL encI x10.ts) (encL encI x11.ts)))/\(((RLe x11.x.nodes.length x1.x.x.nodes.length)/\(RowsEq [.int .i64] x11.x.nodes.length (encL encI x1.x.x.nodes) (encL encI x11.x.nodes)))/\(((RLe x11.x.calls.length x1.x.x.calls.length)/\(RowsEq [.int .i64] x11.x.calls.length (encL encI x1.x.x.calls) (encL encI x11.x.calls)))/\(((RLe x11.x.units.length x1.x.x.units.length)/\(RowsEq [.int .i64] x11.x.units.length (encL encI x1.x.x.units) (encL encI x11.x.units)))/\(((RLe x11.t.nodes.length x1.x.t.nodes.length)/\(RowsEq [.int .i64] x11.t.nodes.length (encL encI x1.x.t.nodes) (encL encI x11.t.nodes)))/\True))))))/\(∃ x12 : SIx, ((SIok x12)/\((((x1.t.n = (x12.g.n : Int))/\((0=0 /\ x1.t.es.length = x12.g.es.length)/\True))/\((0=0 /\ x1.t.ts.length = x12.ts.length)/\((x1.x.x.id = x12.x.id/\(x1.x.x.urg = x12.x.urg/\(x1.x.x.code = x12.x.code/\((0=0 /\ x1.x.x.nodes.length = x12.x.nodes.length)/\(x1.x.x.dis = x12.x.dis/\(x1.x.x.since = x12.x.since/\((0=0 /\ x1.x.x.calls.length = x12.x.calls.length)/\((0=0 /\ x1.x.x.units.length = x12.x.units.length)/\(x1.x.x.merged = x12.x.merged/\(x1.x.x.closed = x12.x.closed/\True))))))))))/\((x1.x.t.call = x12.t.call/\(x1.x.t.inc = x12.t.inc/\(x1.x.t.urg = x12.t.urg/\(x1.x.t.code = x12.t.code/\((0=0 /\ x1.x.t.nodes.length = x12.t.nodes.length)/\(x1.x.t.dis = x12.t.dis/\(x1.x.t.since = x12.t.since/\(x1.x.t.closed = x12.t.closed/\True))))))))/\(x1.near = x12.near/\(x1.win = x12.win/\True))))))/\((((RLe x12.g.es.length x1.t.es.length)/\(RowsEq [.int .i64, .int .i64, .int .i64] x12.g.es.length (encL encE x1.t.es) (encL encE x12.g.es)))/\(((RLe x12.ts.length x1.t.ts.length)/\(RowsEq [.int .i64] x12.ts.length (encL encI x1.t.ts) (encL encI x12.ts)))/\(((RLe x12.x.nodes.length x1.x.x.nodes.length)/\(RowsEq [.int .i64] x12.x.nodes.length (encL encI x1.x.x.nodes) (encL encI x12.x.nodes)))/\(((RLe x12.x.calls.length x1.x.x.calls.length)/\(RowsEq [.int .i64] x12.x.calls.length (encL encI x1.x.x.calls) (encL encI x12.x.calls)))/\(((RLe x12.x.units.length x1.x.x.units.length)/\(RowsEq [.int .i64] x12.x.units.length (encL encI x1.x.x.units) (encL encI x12.x.units)))/\(((RLe x12.t.nodes.length x1.x.t.nodes.length)/\(RowsEq [.int .i64] x12.t.nodes.length (encL encI x1.x.t.nodes) (encL encI x12.t.nodes)))/\True))))))/\(((simB x11.g x11.ts x11.x (ofT x11.t) x11.near x11.win == simB x12.g x12.ts x12.x (ofT x12.t) x12.near x12.win) = true)/\True))))))))))))))))))))/\(false = true -> (∃ x14 : Unit, (True/\(True/\(True/\(true = true/\True)))))))))))))))))) = (Keeps cfgS2y Try.f4 (lawS true) noIv) by kernel_rfl) (fun x1 => fun h2 => ⟨(S2x.t x1),
(by (try dsimp only at *); grind),
⟨⟨rfl,
⟨rfl,rfl⟩,
⟨rfl,rfl⟩,trivial⟩,trivial⟩,
⟨⟨⟨Nat.le_refl _⟩,RowsEq.rfl'⟩,
⟨⟨Nat.le_refl _⟩,RowsEq.rfl'⟩,trivial⟩,
(()),trivial,trivial,trivial,
fun h5 => ⟨(S2x.x x1),trivial,
⟨⟨rfl,rfl,rfl,
⟨rfl,rfl⟩,rfl,rfl,
⟨rfl,rfl⟩,
⟨rfl,rfl⟩,rfl,rfl,rfl,rfl,rfl,rfl,
⟨rfl,rfl⟩,rfl,rfl,rfl,trivial⟩,trivial⟩,
⟨⟨⟨Nat.le_refl _⟩,RowsEq.rfl'⟩,
⟨⟨Nat.le_refl _⟩,RowsEq.rfl'⟩,
⟨⟨Nat.le_refl _⟩,RowsEq.rfl'⟩,
⟨⟨Nat.le_refl _⟩,RowsEq.rfl'⟩,trivial⟩,
fun h7 => ⟨(default),trivial,trivial,trivial,rfl,trivial⟩,
fun h9 => ⟨(S2x.t x1),
(by (try dsimp only at *); exact (tw_ok h2.2).ts),
⟨⟨rfl,
⟨rfl,rfl⟩,
⟨rfl,rfl⟩,trivial⟩,trivial⟩,
⟨⟨⟨Nat.le_refl _⟩,RowsEq.rfl'⟩,
⟨⟨Nat.le_refl _⟩,RowsEq.rfl'⟩,trivial⟩,
({ g := Twn.g (S2x.t x1), ts := Twn.ts (S2x.t x1), x := ICx.x (S2x.x x1), t := ICx.t (S2x.x x1), near := S2x.near x1, win := S2x.win x1 : SIx }),
(by (try dsimp only at *); exact sok h2.2 ‹_› _ _ _),
⟨⟨rfl,rfl⟩,
⟨rfl,rfl⟩,
⟨rfl,rfl,rfl,
⟨rfl,rfl⟩,rfl,rfl,
⟨rfl,rfl⟩,
⟨rfl,rfl⟩,rfl,rfl,trivial⟩,
⟨rfl,rfl,rfl,rfl,
⟨rfl,rfl⟩,rfl,rfl,rfl,trivial⟩,rfl,rfl,trivial⟩,
⟨⟨⟨Nat.le_refl _⟩,
(by (try dsimp only at *); exact RowsEq.rfl')⟩,
⟨⟨Nat.le_refl _⟩,RowsEq.rfl'⟩,
⟨⟨Nat.le_refl _⟩,RowsEq.rfl'⟩,
⟨⟨Nat.le_refl _⟩,RowsEq.rfl'⟩,
⟨⟨Nat.le_refl _⟩,RowsEq.rfl'⟩,
⟨⟨Nat.le_refl _⟩,RowsEq.rfl'⟩,trivial⟩,
({ g := Twn.g (S2x.t x1), ts := Twn.ts (S2x.t x1), x := ICx.x (S2x.x x1), t := ICx.t (S2x.x x1), near := S2x.near x1, win := S2x.win x1 : SIx }),
(by (try dsimp only at *); exact sok h2.2 ‹_› _ _ _),
⟨⟨(by (try dsimp only at *); exact (tw_ok h2.2).e.symm),
⟨rfl,
(by (try dsimp only at *); rfl)⟩,trivial⟩,
⟨rfl,rfl⟩,
⟨rfl,rfl,rfl,
⟨rfl,rfl⟩,rfl,rfl,
⟨rfl,rfl⟩,
⟨rfl,rfl⟩,rfl,rfl,trivial⟩,
⟨rfl,rfl,rfl,rfl,
⟨rfl,rfl⟩,rfl,rfl,rfl,trivial⟩,rfl,rfl,trivial⟩,
⟨⟨⟨(by (try dsimp only at *); exact Nat.le_refl _)⟩,
(by (try dsimp only at *); exact RowsEq.rfl')⟩,
⟨⟨Nat.le_refl _⟩,RowsEq.rfl'⟩,
⟨⟨Nat.le_refl _⟩,RowsEq.rfl'⟩,
⟨⟨Nat.le_refl _⟩,RowsEq.rfl'⟩,
⟨⟨Nat.le_refl _⟩,RowsEq.rfl'⟩,
⟨⟨Nat.le_refl _⟩,RowsEq.rfl'⟩,trivial⟩,
(by (try dsimp only at *); grind),trivial⟩⟩,
fun h13 => ⟨(default),trivial,trivial,trivial,rfl,trivial⟩⟩)
def lawSC : CT := ⟨S2x, fun x => True, s2A, s2H, fun _ => .b true, fun _ => []⟩
theorem s2_good : Good Try.prog 4 lawSC := both_b (t := fun x => twOk x.t)
 (good_of tok conS2y (fn := Try.f4) rfl (by decide +kernel) (fun _ => rfl) s2_yes).1 (good_of tok conS2n (fn := Try.f4) rfl (by decide +kernel) (fun _ => rfl) s2_no).1
end Go.Sym