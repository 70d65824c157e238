import Derived.Test.YtmomlgnnbpkgcaaY2
import Derived.Test.YtmomlgnnbpkgcaaXD
namespace Go.Sym
set_option linter.unusedVariables false
set_option linter.unusedSimpArgs false
open Go.Proofs
set_option maxHeartbeats 4000000
def toldT (x : Inc) : Cal := ⟨0, 0, 0, x.code, x.nodes, 0, x.since, false⟩
theorem kin_sym (a b : ByteArray) : kin a b = kin b a := by
 unfold kin
 rw [Bool.or_comm (a.toList == unkS.toList), show ((fam a).toList == (fam b).toList) = ((fam b).toList == (fam a).toList) from Bool.beq_comm]
theorem near_sym {g : Gr} (hg : GOk g) (ts : List Int) (x y : Inc) (near win : Int) : nearB g ts x y near win = nearB g ts y x near win := by
 unfold nearB; rw [kin_sym, apart_sym, gap_sym hg]
theorem sym_eq {x : S2x} (h : twOk x.t = true) (h1 : x.x.x.closed = false) (h2 : x.x.x.merged = 0) : simB x.t.g x.t.ts x.x.x (ofT x.x.t) x.near x.win = simB x.t.g x.t.ts (ofT x.x.t) (ofT (toldT x.x.x)) x.near x.win := by
 unfold simB
 rw [show opn x.x.x = true by unfold opn; rw [h1, h2]; rfl, show opn (ofT x.x.t) = true from rfl, near_sym (tw_ok h).g]
 rfl
theorem tok2 {x : S2x} (h : twOk x.t = true) (h2 : (!few2 x.x) = false) (near win : Int) (ts : List Int) : SIok ⟨x.t.g, ts, ofT x.x.t, toldT x.x.x, near, win⟩ := by
 have q := sok h h2 near win ts
 exact ⟨q.g, q.n, q.tn, q.xn, q.tc, q.xc⟩
def CS5 (b : CT) : List (Nat × Con) := [(10, .one awakeC), (9, .one b), (12, .one ttimesC), (14, .one few2C), (15, .one simC), (18, .one ofC)]
def cfgS5y : Cfg := ⟨T, [], CS5 tYesC, noInv, 80, {}⟩
def cfgS5n : Cfg := ⟨T, [], CS5 tNoC, noInv, 80, {}⟩
theorem conS5 {b : CT} (h : Good Try.prog 9 b /\ FnOk Try.prog 9) : ConL Try.prog (CS5 b) := .cons (ConL.one awake_good) (.cons (ConL.one h) (.cons (ConL.one ttimes_good) (.cons (ConL.one few2_good) (.cons (ConL.one sim_good) (.cons (ConL.one xof_good) .nil)))))
theorem conS5y : ConOk Try.prog cfgS5y := ConL.ok (conS5 tYes_good)
theorem conS5n : ConOk Try.prog cfgS5n := ConL.ok (conS5 tNo_good)
set_option maxRecDepth 100000 in
theorem s5_no : Keeps cfgS5n Try.f7 (lawS false) noIv := Eq.mp (show ((∀ x1 : S2x, ((True /\ twOk x1.t = false)-> (∃ x3 : Twn, ((twOk x3 = false)/\(((x1.t.n = x3.n/\((0=0 /\ x1.t.es.length = x3.es.length)/\((0=0 /\ x1.t.ts.length = x3.ts.length)/\True)))/\True)/\((((RLe x3.es.length x1.t.es.length)/\(RowsEq [.int .i64, .int .i64, .int .i64] x3.es.length (encL encE x1.t.es) (encL encE x3.es)))/\(((RLe x3.ts.length x1.t.ts.length)/\(RowsEq [.int .i64] x3.ts.length (encL encI x1.t.ts) (encL encI x3.ts)))/\True))/\(∃ x4 : Unit, (True/\(True/\(True/\((false = false -> (∃ x6 : Unit, (True/\(True/\(True/\(true = true/\True))))))/\(false = true -> (∃ x8 : Unit, (True/\(True/\(True/\(true = true/\True)))))))))))))))))) = (Keeps cfgS5n Try.f7 (lawS false) noIv) by kernel_rfl) (fun x1 => fun h2 => ⟨(S2x.t x1),
(by (try dsimp only at *); grind),
⟨⟨rfl,
⟨rfl,rfl⟩,
⟨rfl,rfl⟩,trivial⟩,trivial⟩,
⟨⟨⟨Nat.le_refl _⟩,RowsEq.rfl'⟩,
⟨⟨Nat.le_refl _⟩,RowsEq.rfl'⟩,trivial⟩,
(()),trivial,trivial,trivial,
fun h5 => ⟨(default),trivial,trivial,trivial,rfl,trivial⟩,
fun h7 => ⟨(default),trivial,trivial,trivial,rfl,trivial⟩⟩)
set_option maxRecDepth 100000 in
theorem s5_yes : Keeps cfgS5y Try.f7 (lawS true) noIv := Eq.mp (show ((∀ x1 : S2x, ((True /\ twOk x1.t = true)-> (∃ x3 : Twn, ((twOk x3 = true)/\(((x1.t.n = x3.n/\((0=0 /\ x1.t.es.length = x3.es.length)/\((0=0 /\ x1.t.ts.length = x3.ts.length)/\True)))/\True)/\((((RLe x3.es.length x1.t.es.length)/\(RowsEq [.int .i64, .int .i64, .int .i64] x3.es.length (encL encE x1.t.es) (encL encE x3.es)))/\(((RLe x3.ts.length x1.t.ts.length)/\(RowsEq [.int .i64] x3.ts.length (encL encI x1.t.ts) (encL encI x3.ts)))/\True))/\(∃ x4 : Unit, (True/\(True/\(True/\((false = false -> (∃ x6 : ICx, (True/\(((x1.x.x.id = x6.x.id/\(x1.x.x.urg = x6.x.urg/\(x1.x.x.code = x6.x.code/\((0=0 /\ x1.x.x.nodes.length = x6.x.nodes.length)/\(x1.x.x.dis = x6.x.dis/\(x1.x.x.since = x6.x.since/\((0=0 /\ x1.x.x.calls.length = x6.x.calls.length)/\((0=0 /\ x1.x.x.units.length = x6.x.units.length)/\(x1.x.x.merged = x6.x.merged/\(x1.x.x.closed = x6.x.closed/\(x1.x.t.call = x6.t.call/\(x1.x.t.inc = x6.t.inc/\(x1.x.t.urg = x6.t.urg/\(x1.x.t.code = x6.t.code/\((0=0 /\ x1.x.t.nodes.length = x6.t.nodes.length)/\(x1.x.t.dis = x6.t.dis/\(x1.x.t.since = x6.t.since/\(x1.x.t.closed = x6.t.closed/\True))))))))))))))))))/\True)/\((((RLe x6.x.nodes.length x1.x.x.nodes.length)/\(RowsEq [.int .i64] x6.x.nodes.length (encL encI x1.x.x.nodes) (encL encI x6.x.nodes)))/\(((RLe x6.x.calls.length x1.x.x.calls.length)/\(RowsEq [.int .i64] x6.x.calls.length (encL encI x1.x.x.calls) (encL encI x6.x.calls)))/\(((RLe x6.x.units.length x1.x.x.units.length)/\(RowsEq [.int .i64] x6.x.units.length (encL encI x1.x.x.units) (encL encI x6.x.units)))/\(((RLe x6.t.nodes.length x1.x.t.nodes.length)/\(RowsEq [.int .i64] x6.t.nodes.length (encL encI x1.x.t.nodes) (encL encI x6.t.nodes)))/\True))))/\((((!few2 x6) = false)-> ((x1.x.x.closed = false -> (((decide (x1.x.x.merged ≠ (0 : Int)) = true)-> (∃ x10 : Unit, (True/\(True/\(True/\(true = true/\True))))))/\((decide (x1.x.x.merged ≠ (0 : Int)) = false)-> (∃ x12 : Cal, (True/\(((x1.x.t.call = x12.call/\(x1.x.t.inc = x12.inc/\(x1.x.t.urg = x12.urg/\(x1.x.t.code = x12.code/\((0=0 /\ x1.x.t.nodes.length = x12.nodes.length)/\(x1.x.t.dis = x12.dis/\(x1.x.t.since = x12.since/\(x1.x.t.closed = x12.closed/\True))))))))/\True)/\((((RLe x12.nodes.length x1.x.t.nodes.length)/\(RowsEq [.int .i64] x12.nodes.length (encL encI x1.x.t.nodes) (encL encI x12.nodes)))/\True)/\(∃ x13 : Twn, ((x13.ts.length <= (60 : Nat))/\(((x1.t.n = x13.n/\((0=0 /\ x1.t.es.length = x13.es.length)/\((0=0 /\ x1.t.ts.length = x13.ts.length)/\True)))/\True)/\((((RLe x13.es.length x1.t.es.length)/\(RowsEq [.int .i64, .int .i64, .int .i64] x13.es.length (encL encE x1.t.es) (encL encE x13.es)))/\(((RLe x13.ts.length x1.t.ts.length)/\(RowsEq [.int .i64] x13.ts.length (encL encI x1.t.ts) (encL encI x13.ts)))/\True))/\(∃ x14 : SIx, ((SIok x14)/\(((0=0 /\ 0=0)/\((0=0 /\ x13.ts.length = x14.ts.length)/\((x1.x.x.id = x14.x.id/\(x1.x.x.urg = x14.x.urg/\(x1.x.x.code = x14.x.code/\((0=0 /\ x1.x.x.nodes.length = x14.x.nodes.length)/\(x1.x.x.dis = x14.x.dis/\(x1.x.x.since = x14.x.since/\((0=0 /\ x1.x.x.calls.length = x14.x.calls.length)/\((0=0 /\ x1.x.x.units.length = x14.x.units.length)/\(x1.x.x.merged = x14.x.merged/\(x1.x.x.closed = x14.x.closed/\True))))))))))/\((x1.x.t.call = x14.t.call/\(x1.x.t.inc = x14.t.inc/\(x1.x.t.urg = x14.t.urg/\(x1.x.t.code = x14.t.code/\((0=0 /\ x1.x.t.nodes.length = x14.t.nodes.length)/\(x1.x.t.dis = x14.t.dis/\(x1.x.t.since = x14.t.since/\(x1.x.t.closed = x14.t.closed/\True))))))))/\(x1.near = x14.near/\(x1.win = x14.win/\True))))))/\(((RLe 1 1/\(RowsEq [.sl [.int .i64, .int .i64, .int .i64], .sl [.sl [.int .i64]], .sl [.sl [.int .i64]]] 1 (encG (Gr.mk (Int.toNat x3.n) x3.es)) (encG x14.g)))/\(((RLe x14.ts.length x13.ts.length)/\(RowsEq [.int .i64] x14.ts.length (encL encI x13.ts) (encL encI x14.ts)))/\(((RLe x14.x.nodes.length x1.x.x.nodes.length)/\(RowsEq [.int .i64] x14.x.nodes.length (encL encI x1.x.x.nodes) (encL encI x14.x.nodes)))/\(((RLe x14.x.calls.length x1.x.x.calls.length)/\(RowsEq [.int .i64] x14.x.calls.length (encL encI x1.x.x.calls) (encL encI x14.x.calls)))/\(((RLe x14.x.units.length x1.x.x.units.length)/\(RowsEq [.int .i64] x14.x.units.length (encL encI x1.x.x.units) (encL encI x14.x.units)))/\(((RLe x14.t.nodes.length x1.x.t.nodes.length)/\(RowsEq [.int .i64] x14.t.nodes.length (encL encI x1.x.t.nodes) (encL encI x14.t.nodes)))/\True))))))/\(∃ x15 : Twn, ((x15.ts.length <= (60 : Nat))/\(((x1.t.n = x15.n/\((0=0 /\ x1.t.es.length = x15.es.length)/\((0=0 /\ x1.t.ts.length = x15.ts.length)/\True)))/\True)/\((((RLe x15.es.length x1.t.es.length)/\(RowsEq [.int .i64, .int .i64, .int .i64] x15.es.length (encL encE x1.t.es) (encL encE x15.es)))/\(((RLe x15.ts.length x1.t.ts.length)/\(RowsEq [.int .i64] x15.ts.length (encL encI x1.t.ts) (encL encI x15.ts)))/\True))/\(∃ x16 : SIx, ((SIok x16)/\(((0=0 /\ 0=0)/\((0=0 /\ x15.ts.length = x16.ts.length)/\((0 = x16.x.id/\(0 = x16.x.urg/\(x12.code = x16.x.code/\((0=0 /\ x12.nodes.length = x16.x.nodes.length)/\(0 = x16.x.dis/\(x12.since = x16.x.since/\((True/\(0=0/\(x16.x.calls.length = (0 : Nat))))/\((True/\(0=0/\(x16.x.units.length = (0 : Nat))))/\(0 = x16.x.merged/\(false = x16.x.closed/\True))))))))))/\((0 = x16.t.call/\(0 = x16.t.inc/\(0 = x16.t.urg/\(x1.x.x.code = x16.t.code/\((0=0 /\ x1.x.x.nodes.length = x16.t.nodes.length)/\(0 = x16.t.dis/\(x1.x.x.since = x16.t.since/\(false = x16.t.closed/\True))))))))/\(x1.near = x16.near/\(x1.win = x16.win/\True))))))/\(((RLe 1 1/\(RowsEq [.sl [.int .i64, .int .i64, .int .i64], .sl [.sl [.int .i64]], .sl [.sl [.int .i64]]] 1 (encG (Gr.mk (Int.toNat x3.n) x3.es)) (encG x16.g)))/\(((RLe x16.ts.length x15.ts.length)/\(RowsEq [.int .i64] x16.ts.length (encL encI x15.ts) (encL encI x16.ts)))/\(((RLe x16.x.nodes.length x1.x.t.nodes.length)/\(RowsEq [.int .i64] x16.x.nodes.length (encL encI x1.x.t.nodes) (encL encI x16.x.nodes)))/\((x16.x.calls.length = (0 : Nat))/\((x16.x.units.length = (0 : Nat))/\(((RLe x16.t.nodes.length x1.x.x.nodes.length)/\(RowsEq [.int .i64] x16.t.nodes.length (encL encI x1.x.x.nodes) (encL encI x16.t.nodes)))/\True))))))/\(((simB x14.g x14.ts x14.x (ofT x14.t) x14.near x14.win == simB x16.g x16.ts x16.x (ofT x16.t) x16.near x16.win) = true)/\True))))))))))))))))))))))))/\(x1.x.x.closed = true -> (∃ x18 : Unit, (True/\(True/\(True/\(true = true/\True))))))))/\(((!few2 x6) = true)-> (∃ x20 : Unit, (True/\(True/\(True/\(true = true/\True))))))))))))/\(false = true -> (∃ x22 : Unit, (True/\(True/\(True/\(true = true/\True)))))))))))))))))) = (Keeps cfgS5y Try.f7 (lawS true) noIv) by kernel_rfl) (fun x1 => fun h2 => ⟨(S2x.t x1),
(by (try dsimp only at *); grind),
⟨⟨rfl,
⟨rfl,rfl⟩,
⟨rfl,rfl⟩,trivial⟩,trivial⟩,
⟨⟨⟨Nat.le_refl _⟩,RowsEq.rfl'⟩,
⟨⟨Nat.le_refl _⟩,RowsEq.rfl'⟩,trivial⟩,
(()),trivial,trivial,trivial,
fun h5 => ⟨(S2x.x x1),trivial,
⟨⟨rfl,rfl,rfl,
⟨rfl,rfl⟩,rfl,rfl,
⟨rfl,rfl⟩,
⟨rfl,rfl⟩,rfl,rfl,rfl,rfl,rfl,rfl,
⟨rfl,rfl⟩,rfl,rfl,rfl,trivial⟩,trivial⟩,
⟨⟨⟨Nat.le_refl _⟩,RowsEq.rfl'⟩,
⟨⟨Nat.le_refl _⟩,RowsEq.rfl'⟩,
⟨⟨Nat.le_refl _⟩,RowsEq.rfl'⟩,
⟨⟨Nat.le_refl _⟩,RowsEq.rfl'⟩,trivial⟩,
fun h7 => ⟨fun h8 => ⟨fun g9 => have h9 := of_decide_eq_true g9; ⟨(default),trivial,trivial,trivial,rfl,trivial⟩,
fun g11 => have h11 := of_decide_eq_false g11; ⟨(ICx.t (S2x.x x1)),trivial,
⟨⟨rfl,rfl,rfl,rfl,
⟨rfl,rfl⟩,rfl,rfl,rfl,trivial⟩,trivial⟩,
⟨⟨⟨Nat.le_refl _⟩,RowsEq.rfl'⟩,trivial⟩,
(S2x.t x1),
(by (try dsimp only at *); exact (tw_ok h2.2).ts),
⟨⟨rfl,
⟨rfl,rfl⟩,
⟨rfl,rfl⟩,trivial⟩,trivial⟩,
⟨⟨⟨Nat.le_refl _⟩,RowsEq.rfl'⟩,
⟨⟨Nat.le_refl _⟩,RowsEq.rfl'⟩,trivial⟩,
({ g := Twn.g (S2x.t x1), ts := Twn.ts (S2x.t x1), x := ICx.x (S2x.x x1), t := ICx.t (S2x.x x1), near := S2x.near x1, win := S2x.win x1 : SIx }),
(by (try dsimp only at *); exact sok h2.2 ‹_› _ _ _),
⟨⟨rfl,rfl⟩,
⟨rfl,rfl⟩,
⟨rfl,rfl,rfl,
⟨rfl,rfl⟩,rfl,rfl,
⟨rfl,rfl⟩,
⟨rfl,rfl⟩,rfl,rfl,trivial⟩,
⟨rfl,rfl,rfl,rfl,
⟨rfl,rfl⟩,rfl,rfl,rfl,trivial⟩,rfl,rfl,trivial⟩,
⟨⟨⟨Nat.le_refl _⟩,
(by (try dsimp only at *); exact RowsEq.rfl')⟩,
⟨⟨Nat.le_refl _⟩,RowsEq.rfl'⟩,
⟨⟨Nat.le_refl _⟩,RowsEq.rfl'⟩,
⟨⟨Nat.le_refl _⟩,RowsEq.rfl'⟩,
⟨⟨Nat.le_refl _⟩,RowsEq.rfl'⟩,
⟨⟨Nat.le_refl _⟩,RowsEq.rfl'⟩,trivial⟩,
(S2x.t x1),
(by (try dsimp only at *); exact (tw_ok h2.2).ts),
⟨⟨rfl,
⟨rfl,rfl⟩,
⟨rfl,rfl⟩,trivial⟩,trivial⟩,
⟨⟨⟨Nat.le_refl _⟩,RowsEq.rfl'⟩,
⟨⟨Nat.le_refl _⟩,RowsEq.rfl'⟩,trivial⟩,
({ g := Twn.g (S2x.t x1), ts := Twn.ts (S2x.t x1), x := ofT (ICx.t (S2x.x x1)), t := toldT (ICx.x (S2x.x x1)), near := S2x.near x1, win := S2x.win x1 : SIx }),
(by (try dsimp only at *); exact tok2 h2.2 ‹_› _ _ _),
⟨⟨rfl,rfl⟩,
⟨rfl,rfl⟩,
⟨(by (try dsimp only at *); rfl),
(by (try dsimp only at *); rfl),
(by (try dsimp only at *); rfl),
⟨rfl,
(by (try dsimp only at *); rfl)⟩,
(by (try dsimp only at *); rfl),
(by (try dsimp only at *); rfl),
⟨trivial,rfl,
(by (try dsimp only at *); rfl)⟩,
⟨trivial,rfl,
(by (try dsimp only at *); rfl)⟩,
(by (try dsimp only at *); rfl),
(by (try dsimp only at *); assumption),trivial⟩,
⟨(by (try dsimp only at *); rfl),
(by (try dsimp only at *); rfl),
(by (try dsimp only at *); rfl),
(by (try dsimp only at *); rfl),
⟨rfl,
(by (try dsimp only at *); rfl)⟩,
(by (try dsimp only at *); rfl),
(by (try dsimp only at *); rfl),
(by (try dsimp only at *); assumption),trivial⟩,rfl,rfl,trivial⟩,
⟨⟨⟨Nat.le_refl _⟩,
(by (try dsimp only at *); exact RowsEq.rfl')⟩,
⟨⟨Nat.le_refl _⟩,RowsEq.rfl'⟩,
⟨⟨(by (try dsimp only at *); exact Nat.le_refl _)⟩,
(by (try dsimp only at *); exact RowsEq.rfl')⟩,
(by (try dsimp only at *); rfl),
(by (try dsimp only at *); rfl),
⟨⟨(by (try dsimp only at *); exact Nat.le_refl _)⟩,
(by (try dsimp only at *); exact RowsEq.rfl')⟩,trivial⟩,
(by (try dsimp only at *); exact beq_iff_eq.2 (sym_eq (x := x1) h2.2 h8 (by simpa using h11))),trivial⟩⟩,
fun h17 => ⟨(default),trivial,trivial,trivial,rfl,trivial⟩⟩,
fun h19 => ⟨(default),trivial,trivial,trivial,rfl,trivial⟩⟩,
fun h21 => ⟨(default),trivial,trivial,trivial,rfl,trivial⟩⟩)
theorem s5_good : Good Try.prog 7 lawSC := both_b (t := fun x => twOk x.t)
 (good_of tok conS5y (fn := Try.f7) rfl (by decide +kernel) (fun _ => rfl) s5_yes).1 (good_of tok conS5n (fn := Try.f7) rfl (by decide +kernel) (fun _ => rfl) s5_no).1
end Go.Sym