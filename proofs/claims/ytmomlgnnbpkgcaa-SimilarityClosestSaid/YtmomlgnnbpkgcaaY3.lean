import Derived.Test.YtmomlgnnbpkgcaaU9
import Derived.Test.YtmomlgnnbpkgcaaU6r
import Derived.Test.YtmomlgnnbpkgcaaXD
namespace Go.Sym
set_option linter.unusedVariables false
set_option linter.unusedSimpArgs false
open Go.Proofs
set_option maxHeartbeats 4000000
structure M3x where
 t : Twn
 l : List Inc
 c : Cal
 near : Int
 win : Int
def manyA (l : List Inc) (c : Cal) : SV := .agg [.sl 100002 0 l.length, .i .i64 c.call, .i .i64 c.inc, .i .i64 c.urg, .s c.code, .sl 100003 0 c.nodes.length, .i .i64 c.dis, .i .i64 c.since, .b c.closed]
def m3A (x : M3x) : List SV := [twA x.t, manyA x.l x.c, .agg [.i .i64 x.near, .i .i64 x.win]]
def m3H (x : M3x) : List (Nat × Blk) := twH x.t ++ [(100002, .rows .bor kInc x.l.length (encL encInc x.l)), (100003, .rows .fz k1 x.c.nodes.length (encL encI x.c.nodes))]
def lawM (b : Bool) : CT := ⟨M3x, fun x => x.l.length <= 1034834473170 /\ twOk x.t = b, m3A, m3H, fun _ => .b true, fun _ => []⟩
theorem lok {x : M3x} (h : twOk x.t = true) (h2 : (!fewB (ofT x.c :: x.l)) = false) : LSok ⟨x.t.g, x.t.ts, x.l, x.c, x.near, x.win⟩ := by
 have q := tw_ok h
 have f := few_ok (notT h2)
 have f1 := f.2 (ofT x.c) (by simp)
 have f0 := f.1
 rw [List.length_cons] at f0
 exact ⟨q.g, q.n, by show x.l.length <= _; omega, fun y hy => by have := f.2 y (by simp [hy]); omega, by show (ofT x.c).nodes.length <= _; omega, by show (ofT x.c).code.size <= _; omega⟩
def CM3 (b : CT) : List (Nat × Con) := [(10, .one awakeC), (9, .one b), (12, .one ttimesC), (18, .one ofC), (17, .one fewC), (19, .one closC), (20, .one bestC)]
def cfgM3y : Cfg := ⟨T, [], CM3 tYesC, noInv, 60, {}⟩
def cfgM3n : Cfg := ⟨T, [], CM3 tNoC, noInv, 60, {}⟩
theorem conM3 {b : CT} (h : Good Try.prog 9 b /\ FnOk Try.prog 9) : ConL Try.prog (CM3 b) := .cons (ConL.one awake_good) (.cons (ConL.one h) (.cons (ConL.one ttimes_good) (.cons (ConL.one xof_good) (.cons (ConL.one few_good) (.cons (ConL.one clos_good) (.cons (ConL.one best_good) .nil))))))
theorem conM3y : ConOk Try.prog cfgM3y := ConL.ok (conM3 tYes_good)
theorem conM3n : ConOk Try.prog cfgM3n := ConL.ok (conM3 tNo_good)
theorem consRows {l : List Inc} {y : Inc} {ds : List D} (h : rowEq kInc (fun j => ds.getD j (.i 0)) (encInc y) 0) : RowsEq kInc (y :: l).length (appRows 1 (litRows [ds]) 0 (encL encInc l)) (encL encInc (y :: l)) := by
 refine ⟨fun r hr => ?_⟩
 cases r with
 | zero => exact h
 | succ r =>
  have e : appRows 1 (litRows [ds]) 0 (encL encInc l) (r + 1) = encInc (l.getD r default) := by
   funext j
   unfold appRows
   rw [if_neg (by omega), show 0 + (r + 1 - 1) = r by omega]; rfl
  rw [e]
  exact rowEq_rfl _ _ _
set_option maxRecDepth 100000 in
theorem m3_no : Keeps cfgM3n Try.f5 (lawM false) noIv := Eq.mp (show ((∀ x1 : M3x, ((x1.l.length <= (1034834473170 : Nat) /\ twOk x1.t = false)-> (∃ x3 : Twn, ((twOk x3 = false)/\(((x1.t.n = x3.n/\((0=0 /\ x1.t.es.length = x3.es.length)/\((0=0 /\ x1.t.ts.length = x3.ts.length)/\True)))/\True)/\((((RLe x3.es.length x1.t.es.length)/\(RowsEq [.int .i64, .int .i64, .int .i64] x3.es.length (encL encE x1.t.es) (encL encE x3.es)))/\(((RLe x3.ts.length x1.t.ts.length)/\(RowsEq [.int .i64] x3.ts.length (encL encI x1.t.ts) (encL encI x3.ts)))/\True))/\(∃ x4 : Unit, (True/\(True/\(True/\((false = false -> (∃ x6 : Unit, (True/\(True/\(True/\(true = true/\True))))))/\(false = true -> (∃ x8 : Unit, (True/\(True/\(True/\(true = true/\True)))))))))))))))))) = (Keeps cfgM3n Try.f5 (lawM false) noIv) by kernel_rfl) (fun x1 => fun h2 => ⟨(M3x.t x1),
(by (try dsimp only at *); grind),
⟨⟨rfl,
⟨rfl,rfl⟩,
⟨rfl,rfl⟩,trivial⟩,trivial⟩,
⟨⟨⟨Nat.le_refl _⟩,RowsEq.rfl'⟩,
⟨⟨Nat.le_refl _⟩,RowsEq.rfl'⟩,trivial⟩,
(()),trivial,trivial,trivial,
fun h5 => ⟨(default),trivial,trivial,trivial,rfl,trivial⟩,
fun h7 => ⟨(default),trivial,trivial,trivial,rfl,trivial⟩⟩)
set_option maxRecDepth 100000 in
theorem m3_yes : Keeps cfgM3y Try.f5 (lawM true) noIv := Eq.mp (show ((∀ x1 : M3x, ((x1.l.length <= (1034834473170 : Nat) /\ twOk x1.t = true)-> (∃ x3 : Twn, ((twOk x3 = true)/\(((x1.t.n = x3.n/\((0=0 /\ x1.t.es.length = x3.es.length)/\((0=0 /\ x1.t.ts.length = x3.ts.length)/\True)))/\True)/\((((RLe x3.es.length x1.t.es.length)/\(RowsEq [.int .i64, .int .i64, .int .i64] x3.es.length (encL encE x1.t.es) (encL encE x3.es)))/\(((RLe x3.ts.length x1.t.ts.length)/\(RowsEq [.int .i64] x3.ts.length (encL encI x1.t.ts) (encL encI x3.ts)))/\True))/\(∃ x4 : Unit, (True/\(True/\(True/\((false = false -> (∃ x6 : Cal, (True/\(((x1.c.call = x6.call/\(x1.c.inc = x6.inc/\(x1.c.urg = x6.urg/\(x1.c.code = x6.code/\((0=0 /\ x1.c.nodes.length = x6.nodes.length)/\(x1.c.dis = x6.dis/\(x1.c.since = x6.since/\(x1.c.closed = x6.closed/\True))))))))/\True)/\((((RLe x6.nodes.length x1.c.nodes.length)/\(RowsEq [.int .i64] x6.nodes.length (encL encI x1.c.nodes) (encL encI x6.nodes)))/\True)/\(((True/\(True/\(True/\(((0 : Nat) + x6.nodes.length <= x1.c.nodes.length)/\(True/\(True/\(True/\(True/\(True/\(True/\True))))))))))/\True)/\((0=0/\(((1 : Nat) <= (1 : Nat))/\(((0 : Nat) + x1.l.length <= x1.l.length)/\((1 : Nat) + x1.l.length <= (1034834473171 : Nat)))))/\(∃ x7 : List Inc, (True/\(((0=0/\((1 : Nat) + x1.l.length = x7.length))/\True)/\((((RLe x7.length ((1 : Nat) + x1.l.length))/\(RowsEq (.int .i64 :: .int .i64 :: Kd.str :: .sl [.int .i64] :: .int .i64 :: .int .i64 :: .sl [.int .i64] :: .sl [.int .i64] :: .int .i64 :: Kd.bool :: []) x7.length (appRows 1 (litRows ((D.i 0 :: D.i 0 :: D.s x6.code :: (D.l x6.nodes.length fun (r c : Nat) => D.i (x1.c.nodes.getD ((0 : Nat) + r) default)) :: D.i 0 :: D.i x6.since :: (D.l 0 fun (x x_1 : Nat) => D.i 0) :: (D.l 0 fun (x x_1 : Nat) => D.i 0) :: D.i 0 :: D.b false :: @List.nil D) :: @List.nil (List D))) 0 (encL encInc x1.l)) (encL encInc x7)))/\True)/\((((!fewB x7) = true)-> (∃ x9 : Unit, (True/\(True/\(True/\(true = true/\True))))))/\(((!fewB x7) = false)-> (∃ x11 : Twn, ((x11.ts.length <= (60 : Nat))/\(((x1.t.n = x11.n/\((0=0 /\ x1.t.es.length = x11.es.length)/\((0=0 /\ x1.t.ts.length = x11.ts.length)/\True)))/\True)/\((((RLe x11.es.length x1.t.es.length)/\(RowsEq [.int .i64, .int .i64, .int .i64] x11.es.length (encL encE x1.t.es) (encL encE x11.es)))/\(((RLe x11.ts.length x1.t.ts.length)/\(RowsEq [.int .i64] x11.ts.length (encL encI x1.t.ts) (encL encI x11.ts)))/\True))/\(True/\((0=0/\(((0 : Nat) <= (0 : Nat))/\(((0 : Nat) + x1.l.length <= x1.l.length)/\((0 : Nat) + x1.l.length <= (1034834473171 : Nat)))))/\(∃ x12 : LSx, ((LSok x12)/\(((0=0 /\ 0=0)/\((0=0 /\ x11.ts.length = x12.ts.length)/\((0=0/\((0 : Nat) + x1.l.length = x12.l.length))/\((x1.c.call = x12.t.call/\(x1.c.inc = x12.t.inc/\(x1.c.urg = x12.t.urg/\(x1.c.code = x12.t.code/\((0=0 /\ x1.c.nodes.length = x12.t.nodes.length)/\(x1.c.dis = x12.t.dis/\(x1.c.since = x12.t.since/\(x1.c.closed = x12.t.closed/\True))))))))/\(x1.near = x12.near/\(x1.win = x12.win/\True))))))/\(((RLe 1 1/\(RowsEq [.sl [.int .i64, .int .i64, .int .i64], .sl [.sl [.int .i64]], .sl [.sl [.int .i64]]] 1 (encG (Gr.mk (Int.toNat x3.n) x3.es)) (encG x12.g)))/\(((RLe x12.ts.length x11.ts.length)/\(RowsEq [.int .i64] x12.ts.length (encL encI x11.ts) (encL encI x12.ts)))/\(((RLe x12.l.length ((0 : Nat) + x1.l.length))/\(RowsEq (.int .i64 :: .int .i64 :: Kd.str :: .sl [.int .i64] :: .int .i64 :: .int .i64 :: .sl [.int .i64] :: .sl [.int .i64] :: .int .i64 :: Kd.bool :: []) x12.l.length (appRows 0 (litRows (@List.nil (List D))) 0 (encL encInc x1.l)) (encL encInc x12.l)))/\(((RLe x12.t.nodes.length x1.c.nodes.length)/\(RowsEq [.int .i64] x12.t.nodes.length (encL encI x1.c.nodes) (encL encI x12.t.nodes)))/\True))))/\(∃ x13 : LSx, ((LSok x13)/\((((x1.t.n = (x13.g.n : Int))/\((0=0 /\ x1.t.es.length = x13.g.es.length)/\True))/\((0=0 /\ x1.t.ts.length = x13.ts.length)/\((0=0 /\ x1.l.length = x13.l.length)/\((x1.c.call = x13.t.call/\(x1.c.inc = x13.t.inc/\(x1.c.urg = x13.t.urg/\(x1.c.code = x13.t.code/\((0=0 /\ x1.c.nodes.length = x13.t.nodes.length)/\(x1.c.dis = x13.t.dis/\(x1.c.since = x13.t.since/\(x1.c.closed = x13.t.closed/\True))))))))/\(x1.near = x13.near/\(x1.win = x13.win/\True))))))/\((((RLe x13.g.es.length x1.t.es.length)/\(RowsEq [.int .i64, .int .i64, .int .i64] x13.g.es.length (encL encE x1.t.es) (encL encE x13.g.es)))/\(((RLe x13.ts.length x1.t.ts.length)/\(RowsEq [.int .i64] x13.ts.length (encL encI x1.t.ts) (encL encI x13.ts)))/\(((RLe x13.l.length x1.l.length)/\(RowsEq (.int .i64 :: .int .i64 :: Kd.str :: .sl [.int .i64] :: .int .i64 :: .int .i64 :: .sl [.int .i64] :: .sl [.int .i64] :: .int .i64 :: Kd.bool :: []) x13.l.length (encL encInc x1.l) (encL encInc x13.l)))/\(((RLe x13.t.nodes.length x1.c.nodes.length)/\(RowsEq [.int .i64] x13.t.nodes.length (encL encI x1.c.nodes) (encL encI x13.t.nodes)))/\True))))/\((decide (Prod.snd (clL x12) = Prod.snd (clL x13)) = true)/\True))))))))))))))))))))))))))))/\(false = true -> (∃ x15 : Unit, (True/\(True/\(True/\(true = true/\True)))))))))))))))))) = (Keeps cfgM3y Try.f5 (lawM true) noIv) by kernel_rfl) (fun x1 => fun h2 => ⟨(M3x.t x1),
(by (try dsimp only at *); grind),
⟨⟨rfl,
⟨rfl,rfl⟩,
⟨rfl,rfl⟩,trivial⟩,trivial⟩,
⟨⟨⟨Nat.le_refl _⟩,RowsEq.rfl'⟩,
⟨⟨Nat.le_refl _⟩,RowsEq.rfl'⟩,trivial⟩,
(()),trivial,trivial,trivial,
fun h5 => ⟨(M3x.c x1),trivial,
⟨⟨rfl,rfl,rfl,rfl,
⟨rfl,rfl⟩,rfl,rfl,rfl,trivial⟩,trivial⟩,
⟨⟨⟨Nat.le_refl _⟩,RowsEq.rfl'⟩,trivial⟩,
⟨⟨trivial,trivial,trivial,
(by (try dsimp only at *); omega),trivial,trivial,trivial,trivial,trivial,trivial,trivial⟩,trivial⟩,
⟨rfl,
(by (try dsimp only at *); omega),
(by (try dsimp only at *); omega),
(by (try dsimp only at *); omega)⟩,
(ofT (M3x.c x1) :: M3x.l x1),trivial,
⟨⟨rfl,
(by (try dsimp only at *); grind)⟩,trivial⟩,
⟨⟨⟨(by (try dsimp only at *); grind)⟩,
(by (try dsimp only at *); exact consRows ⟨rfl, rfl, rfl, slEq _, rfl, rfl, nilEq _ _, nilEq _ _, rfl, rfl, trivial⟩)⟩,trivial⟩,
fun h8 => ⟨(default),trivial,trivial,trivial,rfl,trivial⟩,
fun h10 => ⟨(M3x.t x1),
(by (try dsimp only at *); exact (tw_ok h2.2).ts),
⟨⟨rfl,
⟨rfl,rfl⟩,
⟨rfl,rfl⟩,trivial⟩,trivial⟩,
⟨⟨⟨Nat.le_refl _⟩,RowsEq.rfl'⟩,
⟨⟨Nat.le_refl _⟩,RowsEq.rfl'⟩,trivial⟩,trivial,
⟨rfl,
(by (try dsimp only at *); omega),
(by (try dsimp only at *); omega),
(by (try dsimp only at *); omega)⟩,
({ g := Twn.g (M3x.t x1), ts := Twn.ts (M3x.t x1), l := M3x.l x1, t := M3x.c x1, near := M3x.near x1, win := M3x.win x1 : LSx }),
(by (try dsimp only at *); exact lok h2.2 ‹_›),
⟨⟨rfl,rfl⟩,
⟨rfl,rfl⟩,
⟨rfl,
(by (try dsimp only at *); omega)⟩,
⟨rfl,rfl,rfl,rfl,
⟨rfl,rfl⟩,rfl,rfl,rfl,trivial⟩,rfl,rfl,trivial⟩,
⟨⟨⟨Nat.le_refl _⟩,
(by (try dsimp only at *); exact RowsEq.rfl')⟩,
⟨⟨Nat.le_refl _⟩,RowsEq.rfl'⟩,
⟨⟨(by (try dsimp only at *); omega)⟩,
(by (try dsimp only at *); exact copyRows)⟩,
⟨⟨Nat.le_refl _⟩,RowsEq.rfl'⟩,trivial⟩,
({ g := Twn.g (M3x.t x1), ts := Twn.ts (M3x.t x1), l := M3x.l x1, t := M3x.c x1, near := M3x.near x1, win := M3x.win x1 : LSx }),
(by (try dsimp only at *); exact lok h2.2 ‹_›),
⟨⟨(by (try dsimp only at *); exact (tw_ok h2.2).e.symm),
⟨rfl,
(by (try dsimp only at *); rfl)⟩,trivial⟩,
⟨rfl,rfl⟩,
⟨rfl,rfl⟩,
⟨rfl,rfl,rfl,rfl,
⟨rfl,rfl⟩,rfl,rfl,rfl,trivial⟩,rfl,rfl,trivial⟩,
⟨⟨⟨(by (try dsimp only at *); exact Nat.le_refl _)⟩,
(by (try dsimp only at *); exact RowsEq.rfl')⟩,
⟨⟨Nat.le_refl _⟩,RowsEq.rfl'⟩,
⟨⟨Nat.le_refl _⟩,RowsEq.rfl'⟩,
⟨⟨Nat.le_refl _⟩,RowsEq.rfl'⟩,trivial⟩,
(by (try dsimp only at *); grind),trivial⟩⟩,
fun h14 => ⟨(default),trivial,trivial,trivial,rfl,trivial⟩⟩)
def lawMC : CT := ⟨M3x, fun x => x.l.length <= 1034834473170, m3A, m3H, fun _ => .b true, fun _ => []⟩
theorem m3_good : Good Try.prog 5 lawMC := both_b (t := fun x => twOk x.t)
 (good_of tok conM3y (fn := Try.f5) rfl (by decide +kernel) (fun _ => rfl) m3_yes).1 (good_of tok conM3n (fn := Try.f5) rfl (by decide +kernel) (fun _ => rfl) m3_no).1
end Go.Sym