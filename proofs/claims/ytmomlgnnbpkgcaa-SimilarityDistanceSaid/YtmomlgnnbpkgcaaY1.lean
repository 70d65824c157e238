import Derived.Test.YtmomlgnnbpkgcaaU9
import Derived.Test.YtmomlgnnbpkgcaaXD
namespace Go.Sym
set_option linter.unusedVariables false
set_option linter.unusedSimpArgs false
open Go.Proofs
set_option maxHeartbeats 4000000
structure D3x where
 t : Twn
 a : List Int
 b : List Int
def d3A (x : D3x) : List SV := [twA x.t, .sl 100002 0 x.a.length, .sl 100003 0 x.b.length]
def d3H (x : D3x) : List (Nat × Blk) := twH x.t ++ [(100002, .rows .bor k1 x.a.length (encL encI x.a)), (100003, .rows .bor k1 x.b.length (encL encI x.b))]
def lawD (b : Bool) : CT := ⟨D3x, fun x => True /\ twOk x.t = b, d3A, d3H, fun _ => .b true, fun _ => []⟩
def CD3 (b : CT) : List (Nat × Con) := [(10, .one awakeC), (9, .one b), (12, .one ttimesC), (11, .one gapC), (13, .one qgapC)]
def cfgD3y : Cfg := ⟨T, [], CD3 tYesC, noInv, 60, {}⟩
def cfgD3n : Cfg := ⟨T, [], CD3 tNoC, noInv, 60, {}⟩
theorem conD3 {b : CT} (h : Good Try.prog 9 b /\ FnOk Try.prog 9) : ConL Try.prog (CD3 b) := .cons (ConL.one awake_good) (.cons (ConL.one h) (.cons (ConL.one ttimes_good) (.cons (ConL.one gap_good) (.cons (ConL.one qgap_good) .nil))))
theorem conD3y : ConOk Try.prog cfgD3y := ConL.ok (conD3 tYes_good)
theorem conD3n : ConOk Try.prog cfgD3n := ConL.ok (conD3 tNo_good)
set_option maxRecDepth 100000 in
theorem d3_no : Keeps cfgD3n Try.f3 (lawD false) noIv := Eq.mp (show ((∀ x1 : D3x, ((True /\ twOk x1.t = false)-> (∃ x3 : Twn, ((twOk x3 = false)/\(((x1.t.n = x3.n/\((0=0 /\ x1.t.es.length = x3.es.length)/\((0=0 /\ x1.t.ts.length = x3.ts.length)/\True)))/\True)/\((((RLe x3.es.length x1.t.es.length)/\(RowsEq [.int .i64, .int .i64, .int .i64] x3.es.length (encL encE x1.t.es) (encL encE x3.es)))/\(((RLe x3.ts.length x1.t.ts.length)/\(RowsEq [.int .i64] x3.ts.length (encL encI x1.t.ts) (encL encI x3.ts)))/\True))/\(∃ x4 : Unit, (True/\(True/\(True/\((false = false -> (∃ x6 : Unit, (True/\(True/\(True/\(true = true/\True))))))/\(false = true -> (∃ x8 : Unit, (True/\(True/\(True/\(true = true/\True)))))))))))))))))) = (Keeps cfgD3n Try.f3 (lawD false) noIv) by kernel_rfl) (fun x1 => fun h2 => ⟨(D3x.t x1),
(by (try dsimp only at *); grind),
⟨⟨rfl,
⟨rfl,rfl⟩,
⟨rfl,rfl⟩,trivial⟩,trivial⟩,
⟨⟨⟨Nat.le_refl _⟩,RowsEq.rfl'⟩,
⟨⟨Nat.le_refl _⟩,RowsEq.rfl'⟩,trivial⟩,
(()),trivial,trivial,trivial,
fun h5 => ⟨(default),trivial,trivial,trivial,rfl,trivial⟩,
fun h7 => ⟨(default),trivial,trivial,trivial,rfl,trivial⟩⟩)
set_option maxRecDepth 100000 in
theorem d3_yes : Keeps cfgD3y Try.f3 (lawD true) noIv := Eq.mp (show ((∀ x1 : D3x, ((True /\ twOk x1.t = true)-> (∃ x3 : Twn, ((twOk x3 = true)/\(((x1.t.n = x3.n/\((0=0 /\ x1.t.es.length = x3.es.length)/\((0=0 /\ x1.t.ts.length = x3.ts.length)/\True)))/\True)/\((((RLe x3.es.length x1.t.es.length)/\(RowsEq [.int .i64, .int .i64, .int .i64] x3.es.length (encL encE x1.t.es) (encL encE x3.es)))/\(((RLe x3.ts.length x1.t.ts.length)/\(RowsEq [.int .i64] x3.ts.length (encL encI x1.t.ts) (encL encI x3.ts)))/\True))/\(∃ x4 : Unit, (True/\(True/\(True/\((false = false -> (((decide (30 < (x1.a.length : Int)) = false)-> (((decide (30 < (x1.b.length : Int)) = true)-> (∃ x8 : Unit, (True/\(True/\(True/\(true = true/\True))))))/\((decide (30 < (x1.b.length : Int)) = false)-> (∃ x10 : Twn, ((x10.ts.length <= (60 : Nat))/\(((x1.t.n = x10.n/\((0=0 /\ x1.t.es.length = x10.es.length)/\((0=0 /\ x1.t.ts.length = x10.ts.length)/\True)))/\True)/\((((RLe x10.es.length x1.t.es.length)/\(RowsEq [.int .i64, .int .i64, .int .i64] x10.es.length (encL encE x1.t.es) (encL encE x10.es)))/\(((RLe x10.ts.length x1.t.ts.length)/\(RowsEq [.int .i64] x10.ts.length (encL encI x1.t.ts) (encL encI x10.ts)))/\True))/\(True/\((0=0/\(((0 : Nat) <= (0 : Nat))/\(((0 : Nat) + x1.a.length <= x1.a.length)/\((0 : Nat) + x1.a.length <= (1073741824 : Nat)))))/\(True/\((0=0/\(((0 : Nat) <= (0 : Nat))/\(((0 : Nat) + x1.b.length <= x1.b.length)/\((0 : Nat) + x1.b.length <= (1073741824 : Nat)))))/\(∃ x11 : GAx, ((GAok x11)/\(((0=0 /\ 0=0)/\((0=0 /\ x10.ts.length = x11.ts.length)/\((0=0/\((0 : Nat) + x1.a.length = x11.a.length))/\((0=0/\((0 : Nat) + x1.b.length = x11.b.length))/\True))))/\(((RLe 1 1/\(RowsEq [.sl [.int .i64, .int .i64, .int .i64], .sl [.sl [.int .i64]], .sl [.sl [.int .i64]]] 1 (encG (Gr.mk (Int.toNat x3.n) x3.es)) (encG x11.g)))/\(((RLe x11.ts.length x10.ts.length)/\(RowsEq [.int .i64] x11.ts.length (encL encI x10.ts) (encL encI x11.ts)))/\(((RLe x11.a.length ((0 : Nat) + x1.a.length))/\(RowsEq [.int .i64] x11.a.length (appRows 0 (litRows (@List.nil (List D))) 0 (encL encI x1.a)) (encL encI x11.a)))/\(((RLe x11.b.length ((0 : Nat) + x1.b.length))/\(RowsEq [.int .i64] x11.b.length (appRows 0 (litRows (@List.nil (List D))) 0 (encL encI x1.b)) (encL encI x11.b)))/\True))))/\(∃ x12 : GAx, ((GAok x12)/\((((x1.t.n = (x12.g.n : Int))/\((0=0 /\ x1.t.es.length = x12.g.es.length)/\True))/\((0=0 /\ x1.t.ts.length = x12.ts.length)/\((0=0 /\ x1.a.length = x12.a.length)/\((0=0 /\ x1.b.length = x12.b.length)/\True))))/\((((RLe x12.g.es.length x1.t.es.length)/\(RowsEq [.int .i64, .int .i64, .int .i64] x12.g.es.length (encL encE x1.t.es) (encL encE x12.g.es)))/\(((RLe x12.ts.length x1.t.ts.length)/\(RowsEq [.int .i64] x12.ts.length (encL encI x1.t.ts) (encL encI x12.ts)))/\(((RLe x12.a.length x1.a.length)/\(RowsEq [.int .i64] x12.a.length (encL encI x1.a) (encL encI x12.a)))/\(((RLe x12.b.length x1.b.length)/\(RowsEq [.int .i64] x12.b.length (encL encI x1.b) (encL encI x12.b)))/\True))))/\(((decide (gapP x11.g x11.ts x11.a x11.b = gapP x12.g x12.ts x12.a x12.b) = true)-> (∃ x14 : Twn, ((x14.ts.length <= (60 : Nat))/\(((x1.t.n = x14.n/\((0=0 /\ x1.t.es.length = x14.es.length)/\((0=0 /\ x1.t.ts.length = x14.ts.length)/\True)))/\True)/\((((RLe x14.es.length x1.t.es.length)/\(RowsEq [.int .i64, .int .i64, .int .i64] x14.es.length (encL encE x1.t.es) (encL encE x14.es)))/\(((RLe x14.ts.length x1.t.ts.length)/\(RowsEq [.int .i64] x14.ts.length (encL encI x1.t.ts) (encL encI x14.ts)))/\True))/\(True/\((0=0/\(((0 : Nat) <= (0 : Nat))/\(((0 : Nat) + x1.b.length <= x1.b.length)/\((0 : Nat) + x1.b.length <= (1073741824 : Nat)))))/\(True/\((0=0/\(((0 : Nat) <= (0 : Nat))/\(((0 : Nat) + x1.a.length <= x1.a.length)/\((0 : Nat) + x1.a.length <= (1073741824 : Nat)))))/\(∃ x15 : GAx, ((GAok x15)/\(((0=0 /\ 0=0)/\((0=0 /\ x14.ts.length = x15.ts.length)/\((0=0/\((0 : Nat) + x1.b.length = x15.a.length))/\((0=0/\((0 : Nat) + x1.a.length = x15.b.length))/\True))))/\(((RLe 1 1/\(RowsEq [.sl [.int .i64, .int .i64, .int .i64], .sl [.sl [.int .i64]], .sl [.sl [.int .i64]]] 1 (encG (Gr.mk (Int.toNat x3.n) x3.es)) (encG x15.g)))/\(((RLe x15.ts.length x14.ts.length)/\(RowsEq [.int .i64] x15.ts.length (encL encI x14.ts) (encL encI x15.ts)))/\(((RLe x15.a.length ((0 : Nat) + x1.b.length))/\(RowsEq [.int .i64] x15.a.length (appRows 0 (litRows (@List.nil (List D))) 0 (encL encI x1.b)) (encL encI x15.a)))/\(((RLe x15.b.length ((0 : Nat) + x1.a.length))/\(RowsEq [.int .i64] x15.b.length (appRows 0 (litRows (@List.nil (List D))) 0 (encL encI x1.a)) (encL encI x15.b)))/\True))))/\((decide (gapP x11.g x11.ts x11.a x11.b = gapP x15.g x15.ts x15.a x15.b) = true)/\True))))))))))))))/\((decide (gapP x11.g x11.ts x11.a x11.b = gapP x12.g x12.ts x12.a x12.b) = false)-> (false = true/\True))))))))))))))))))))))/\((decide (30 < (x1.a.length : Int)) = true)-> (∃ x18 : Unit, (True/\(True/\(True/\(true = true/\True))))))))/\(false = true -> (∃ x20 : Unit, (True/\(True/\(True/\(true = true/\True)))))))))))))))))) = (Keeps cfgD3y Try.f3 (lawD true) noIv) by kernel_rfl) (fun x1 => fun h2 => ⟨(D3x.t x1),
(by (try dsimp only at *); grind),
⟨⟨rfl,
⟨rfl,rfl⟩,
⟨rfl,rfl⟩,trivial⟩,trivial⟩,
⟨⟨⟨Nat.le_refl _⟩,RowsEq.rfl'⟩,
⟨⟨Nat.le_refl _⟩,RowsEq.rfl'⟩,trivial⟩,
(()),trivial,trivial,trivial,
fun h5 => ⟨fun g6 => have h6 := of_decide_eq_false g6; ⟨fun g7 => have h7 := of_decide_eq_true g7; ⟨(default),trivial,trivial,trivial,rfl,trivial⟩,
fun g9 => have h9 := of_decide_eq_false g9; ⟨(D3x.t x1),
(by (try dsimp only at *); exact (tw_ok h2.2).ts),
⟨⟨rfl,
⟨rfl,rfl⟩,
⟨rfl,rfl⟩,trivial⟩,trivial⟩,
⟨⟨⟨Nat.le_refl _⟩,RowsEq.rfl'⟩,
⟨⟨Nat.le_refl _⟩,RowsEq.rfl'⟩,trivial⟩,trivial,
⟨rfl,
(by (try dsimp only at *); omega),
(by (try dsimp only at *); omega),
(by (try dsimp only at *); omega)⟩,trivial,
⟨rfl,
(by (try dsimp only at *); omega),
(by (try dsimp only at *); omega),
(by (try dsimp only at *); omega)⟩,
({ g := Twn.g (D3x.t x1), ts := Twn.ts (D3x.t x1), a := D3x.a x1, b := D3x.b x1 : GAx }),
(by (try dsimp only at *); (have q := tw_ok h2.2; exact ⟨q.g, q.n, by show x1.a.length <= _; omega, by show x1.b.length <= _; omega⟩)),
⟨⟨rfl,rfl⟩,
⟨rfl,rfl⟩,
⟨rfl,
(by (try dsimp only at *); omega)⟩,
⟨rfl,
(by (try dsimp only at *); omega)⟩,trivial⟩,
⟨⟨⟨Nat.le_refl _⟩,
(by (try dsimp only at *); exact RowsEq.rfl')⟩,
⟨⟨Nat.le_refl _⟩,RowsEq.rfl'⟩,
⟨⟨(by (try dsimp only at *); omega)⟩,
(by (try dsimp only at *); exact copyRows)⟩,
⟨⟨(by (try dsimp only at *); omega)⟩,
(by (try dsimp only at *); exact copyRows)⟩,trivial⟩,
({ g := Twn.g (D3x.t x1), ts := Twn.ts (D3x.t x1), a := D3x.a x1, b := D3x.b x1 : GAx }),
(by (try dsimp only at *); (have q := tw_ok h2.2; exact ⟨q.g, q.n, by show x1.a.length <= _; omega, by show x1.b.length <= _; omega⟩)),
⟨⟨(by (try dsimp only at *); exact (tw_ok h2.2).e.symm),
⟨rfl,
(by (try dsimp only at *); rfl)⟩,trivial⟩,
⟨rfl,rfl⟩,
⟨rfl,rfl⟩,
⟨rfl,rfl⟩,trivial⟩,
⟨⟨⟨(by (try dsimp only at *); exact Nat.le_refl _)⟩,
(by (try dsimp only at *); exact RowsEq.rfl')⟩,
⟨⟨Nat.le_refl _⟩,RowsEq.rfl'⟩,
⟨⟨Nat.le_refl _⟩,RowsEq.rfl'⟩,
⟨⟨Nat.le_refl _⟩,RowsEq.rfl'⟩,trivial⟩,
fun g13 => have h13 := of_decide_eq_true g13; ⟨(D3x.t x1),
(by (try dsimp only at *); exact (tw_ok h2.2).ts),
⟨⟨rfl,
⟨rfl,rfl⟩,
⟨rfl,rfl⟩,trivial⟩,trivial⟩,
⟨⟨⟨Nat.le_refl _⟩,RowsEq.rfl'⟩,
⟨⟨Nat.le_refl _⟩,RowsEq.rfl'⟩,trivial⟩,trivial,
⟨rfl,
(by (try dsimp only at *); omega),
(by (try dsimp only at *); omega),
(by (try dsimp only at *); omega)⟩,trivial,
⟨rfl,
(by (try dsimp only at *); omega),
(by (try dsimp only at *); omega),
(by (try dsimp only at *); omega)⟩,
({ g := Twn.g (D3x.t x1), ts := Twn.ts (D3x.t x1), a := D3x.b x1, b := D3x.a x1 : GAx }),
(by (try dsimp only at *); (have q := tw_ok h2.2; exact ⟨q.g, q.n, by show x1.b.length <= _; omega, by show x1.a.length <= _; omega⟩)),
⟨⟨rfl,rfl⟩,
⟨rfl,rfl⟩,
⟨rfl,
(by (try dsimp only at *); omega)⟩,
⟨rfl,
(by (try dsimp only at *); omega)⟩,trivial⟩,
⟨⟨⟨Nat.le_refl _⟩,
(by (try dsimp only at *); exact RowsEq.rfl')⟩,
⟨⟨Nat.le_refl _⟩,RowsEq.rfl'⟩,
⟨⟨(by (try dsimp only at *); omega)⟩,
(by (try dsimp only at *); exact copyRows)⟩,
⟨⟨(by (try dsimp only at *); omega)⟩,
(by (try dsimp only at *); exact copyRows)⟩,trivial⟩,
(by (try dsimp only at *); exact decide_eq_true (gap_sym (tw_ok h2.2).g _ _ _)),trivial⟩,
fun g16 => have h16 := of_decide_eq_false g16; ⟨(by (try dsimp only at *); omega),trivial⟩⟩⟩,
fun g17 => have h17 := of_decide_eq_true g17; ⟨(default),trivial,trivial,trivial,rfl,trivial⟩⟩,
fun h19 => ⟨(default),trivial,trivial,trivial,rfl,trivial⟩⟩)
def lawDC : CT := ⟨D3x, fun x => True, d3A, d3H, fun _ => .b true, fun _ => []⟩
theorem d3_good : Good Try.prog 3 lawDC := both_b (t := fun x => twOk x.t)
 (good_of tok conD3y (fn := Try.f3) rfl (by decide +kernel) (fun _ => rfl) d3_yes).1 (good_of tok conD3n (fn := Try.f3) rfl (by decide +kernel) (fun _ => rfl) d3_no).1
end Go.Sym