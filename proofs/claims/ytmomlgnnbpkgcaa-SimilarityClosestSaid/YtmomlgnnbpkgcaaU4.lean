import Derived.Test.YtmomlgnnbpkgcaaU1
import Derived.Test.YtmomlgnnbpkgcaaU3
import Derived.Test.YtmomlgnnbpkgcaaXD
namespace Go.Sym
set_option linter.unusedVariables false
set_option linter.unusedSimpArgs false
open Go.Proofs
set_option maxHeartbeats 4000000
set_option maxRecDepth 100000 in
theorem to_keeps : Keeps cfgFr Try.f40 (fromC false) noIv := Eq.mp (show ((∀ x1 : FX, ((FXok x1)-> (∃ x3 : GTx, ((x3.g.es.length <= (16384 : Nat))/\(((0=0 /\ 0=0)/\((0=0 /\ x1.ts.length = x3.ts.length)/\True))/\(((RLe 1 1/\(RowsEq [.sl [.int .i64, .int .i64, .int .i64], .sl [.sl [.int .i64]], .sl [.sl [.int .i64]]] 1 (encG x1.g) (encG x3.g)))/\(((RLe x3.ts.length x1.ts.length)/\(RowsEq [.int .i64] x3.ts.length (encL encI x1.ts) (encL encI x3.ts)))/\True))/\(∃ x4 : SX, ((SXok x4)/\(((0=0 /\ 0=0)/\((0=0 /\ x3.g.es.length = x4.g.es.length)/\((0=0 /\ x1.src.length = x4.ends.length)/\(false = x4.fwd/\True))))/\(((RLe 1 1/\(RowsEq [.sl [.int .i64, .int .i64, .int .i64], .sl [.sl [.int .i64]], .sl [.sl [.int .i64]]] 1 (encG x1.g) (encG x4.g)))/\(((RLe x4.g.es.length x3.g.es.length)/\(RowsEq [.int .i64] x4.g.es.length (encL encI (ttL x3.ts x3.g.es.length)) (encL encI x4.ws)))/\(((RLe x4.ends.length x1.src.length)/\(RowsEq [.int .i64] x4.ends.length (encL encI x1.src) (encL encI x4.ends)))/\True)))/\((0=0 /\ x4.g.n = x1.g.n)/\(((RLe x1.g.n x4.g.n)/\(RowsEq [.int .i64] x1.g.n (encL encI (distF (SX.N x4) (isSrc x4.ends))) (encL encI (distG x1.g x1.ts x1.src false))))/\True))))))))))))) = (Keeps cfgFr Try.f40 (fromC false) noIv) by kernel_rfl) (fun x1 => fun h2 => ⟨({ g := FX.g x1, ts := FX.ts x1 : GTx }),
(by (try dsimp only at *); exact h2.g.m),
⟨⟨rfl,rfl⟩,
⟨rfl,rfl⟩,trivial⟩,
⟨⟨⟨Nat.le_refl _⟩,RowsEq.rfl'⟩,
⟨⟨Nat.le_refl _⟩,RowsEq.rfl'⟩,trivial⟩,
({ g := FX.g x1, ws := ttL (FX.ts x1) (List.length (Gr.es (FX.g x1))), ends := FX.src x1, fwd := false : SX }),
(by (try dsimp only at *); exact ⟨h2.g, h2.n, wsOk_tt _ _, h2.e⟩),
⟨⟨rfl,rfl⟩,
⟨rfl,rfl⟩,
⟨rfl,rfl⟩,rfl,trivial⟩,
⟨⟨⟨Nat.le_refl _⟩,RowsEq.rfl'⟩,
⟨⟨Nat.le_refl _⟩,RowsEq.rfl'⟩,
⟨⟨Nat.le_refl _⟩,RowsEq.rfl'⟩,trivial⟩,
⟨rfl,rfl⟩,
⟨⟨Nat.le_refl _⟩,
(by (try dsimp only at *); exact RowsEq.rfl')⟩,trivial⟩)
theorem to_good : Good Try.prog 40 (fromC false) /\ FnOk Try.prog 40 := good_of tok conFr (fn := Try.f40) rfl (by decide +kernel) (fun _ => rfl) to_keeps
structure FDx where
 fr : List Int
 tw : List Int
 l : List Int
def stepD (fr tw : List Int) (m v : Int) : Int := if 0 <= v /\ v < fr.length /\ v < tw.length then min (min m (fr.getD v.toNat default)) (tw.getD v.toNat default) else m
def gapAt (x : FDx) (k : Nat) : Int := (x.l.take k).foldl (stepD x.fr x.tw) 4611686018427387904
def gapL (x : FDx) : Int := x.l.foldl (stepD x.fr x.tw) 4611686018427387904
theorem gapAt_succ {x : FDx} {k : Nat} (hk : k < x.l.length) : gapAt x (k + 1) = stepD x.fr x.tw (gapAt x k) (x.l.getD k default) := by
 unfold gapAt; rw [take_succ_getD (d := default) hk, List.foldl_append]; rfl
theorem gapAt_full {x : FDx} {k : Nat} (h1 : k <= x.l.length) (h2 : ¬ (k : Int) < x.l.length) : gapAt x k = gapL x := by
 unfold gapAt gapL; rw [List.take_of_length_le (by omega)]
def fdC : CT where
 X := FDx
 pre := fun x => x.l.length <= 1073741824 /\ x.fr.length <= 1073741824 /\ x.tw.length <= 1073741824
 args := fun x => [.agg [.sl 100000 0 x.fr.length, .sl 100001 0 x.tw.length], .sl 100002 0 x.l.length]
 g0 := fun x => [(100000, .rows .bor k1 x.fr.length (encL encI x.fr)), (100001, .rows .bor k1 x.tw.length (encL encI x.tw)), (100002, .rows .bor k1 x.l.length (encL encI x.l))]
 res := fun x => .i .i64 (gapL x)
 g1 := fun _ => []
def fdI (x : FDx) (id : Nat) : Option Inv := match id with
 | 0 => some { X := Nat, ok := fun k => k <= x.l.length, fr := fun k => [(10, .i .i64 k), (5, .i .i64 (gapAt x k))], hp := fun _ => [], me := fun k => x.l.length - k }
 | _ => none
set_option maxRecDepth 100000 in
theorem fd_keeps : Keeps cfgN0 Try.f27 fdC fdI := Eq.mp (show ((∀ x1 : FDx, ((x1.l.length <= (1073741824 : Nat) /\ x1.fr.length <= (1073741824 : Nat) /\ x1.tw.length <= (1073741824 : Nat))-> (∃ x3 : Nat, (((x3 <= x1.l.length)/\(((0 = (x3 : Int))/\(((4611686018427387904 : Int) = gapAt x1 x3)/\(((x1.l.length : Int) = (x1.l.length : Int))/\((0=0 /\ x1.l.length = x1.l.length)/\(((0 : Int) = 0)/\((0=0 /\ 0=0)/\(((0=0 /\ x1.fr.length = x1.fr.length)/\((0=0 /\ x1.tw.length = x1.tw.length)/\True))/\((0=0 /\ x1.l.length = x1.l.length)/\True))))))))/\(((0=0 /\ x1.fr.length = x1.fr.length)/\((0=0 /\ x1.tw.length = x1.tw.length)/\True))/\(((RLe x1.fr.length x1.fr.length)/\(RowsEq [.int .i64] x1.fr.length (encL encI x1.fr) (encL encI x1.fr)))/\(((RLe x1.tw.length x1.tw.length)/\(RowsEq [.int .i64] x1.tw.length (encL encI x1.tw) (encL encI x1.tw)))/\(((RLe x1.l.length x1.l.length)/\(RowsEq [.int .i64] x1.l.length (encL encI x1.l) (encL encI x1.l)))/\True))))))/\(∀ x4 : Nat, ((x4 <= x1.l.length)-> (((decide ((x4 : Int) < (x1.l.length : Int)) = true)-> ((((0 : Int) <= (x4 : Int))/\((x4 : Int) < (x1.l.length : Int)))/\((0 + Int.toNat (x4 : Int) < x1.l.length)/\(((decide ((0 : Int) <= x1.l.getD (0 + Int.toNat (x4 : Int)) default) = true)-> (((decide (x1.l.getD (0 + Int.toNat (x4 : Int)) default < (x1.fr.length : Int)) = true)-> (((decide (x1.l.getD (0 + Int.toNat (x4 : Int)) default < (x1.tw.length : Int)) = true)-> ((((0 : Int) <= x1.l.getD (0 + Int.toNat (x4 : Int)) default)/\(x1.l.getD (0 + Int.toNat (x4 : Int)) default < (x1.fr.length : Int)))/\((0 + Int.toNat (x1.l.getD (0 + Int.toNat (x4 : Int)) default) < x1.fr.length)/\((((0 : Int) <= x1.l.getD (0 + Int.toNat (x4 : Int)) default)/\(x1.l.getD (0 + Int.toNat (x4 : Int)) default < (x1.tw.length : Int)))/\((0 + Int.toNat (x1.l.getD (0 + Int.toNat (x4 : Int)) default) < x1.tw.length)/\((((-9223372036854775808 : Int) <= (x4 : Int) + 1)/\((x4 : Int) + 1 <= (9223372036854775807 : Int)))/\(∃ x10 : Nat, ((x1.l.length - x10 < x1.l.length - x4)/\((x10 <= x1.l.length)/\((((x4 : Int) + 1 = (x10 : Int))/\((min (min (gapAt x1 x4) (x1.fr.getD (0 + Int.toNat (x1.l.getD (0 + Int.toNat (x4 : Int)) default)) default)) (x1.tw.getD (0 + Int.toNat (x1.l.getD (0 + Int.toNat (x4 : Int)) default)) default) = gapAt x1 x10)/\(((x1.l.length : Int) = (x1.l.length : Int))/\((0=0 /\ x1.l.length = x1.l.length)/\(((0 : Int) = 0)/\((0=0 /\ 0=0)/\(((0=0 /\ x1.fr.length = x1.fr.length)/\((0=0 /\ x1.tw.length = x1.tw.length)/\True))/\((0=0 /\ x1.l.length = x1.l.length)/\True))))))))/\(((0=0 /\ x1.fr.length = x1.fr.length)/\((0=0 /\ x1.tw.length = x1.tw.length)/\True))/\(((RLe x1.fr.length x1.fr.length)/\(RowsEq [.int .i64] x1.fr.length (encL encI x1.fr) (encL encI x1.fr)))/\(((RLe x1.tw.length x1.tw.length)/\(RowsEq [.int .i64] x1.tw.length (encL encI x1.tw) (encL encI x1.tw)))/\(((RLe x1.l.length x1.l.length)/\(RowsEq [.int .i64] x1.l.length (encL encI x1.l) (encL encI x1.l)))/\True))))))))))))))/\((decide (x1.l.getD (0 + Int.toNat (x4 : Int)) default < (x1.tw.length : Int)) = false)-> ((((-9223372036854775808 : Int) <= (x4 : Int) + 1)/\((x4 : Int) + 1 <= (9223372036854775807 : Int)))/\(∃ x12 : Nat, ((x1.l.length - x12 < x1.l.length - x4)/\((x12 <= x1.l.length)/\((((x4 : Int) + 1 = (x12 : Int))/\((gapAt x1 x4 = gapAt x1 x12)/\(((x1.l.length : Int) = (x1.l.length : Int))/\((0=0 /\ x1.l.length = x1.l.length)/\(((0 : Int) = 0)/\((0=0 /\ 0=0)/\(((0=0 /\ x1.fr.length = x1.fr.length)/\((0=0 /\ x1.tw.length = x1.tw.length)/\True))/\((0=0 /\ x1.l.length = x1.l.length)/\True))))))))/\(((0=0 /\ x1.fr.length = x1.fr.length)/\((0=0 /\ x1.tw.length = x1.tw.length)/\True))/\(((RLe x1.fr.length x1.fr.length)/\(RowsEq [.int .i64] x1.fr.length (encL encI x1.fr) (encL encI x1.fr)))/\(((RLe x1.tw.length x1.tw.length)/\(RowsEq [.int .i64] x1.tw.length (encL encI x1.tw) (encL encI x1.tw)))/\(((RLe x1.l.length x1.l.length)/\(RowsEq [.int .i64] x1.l.length (encL encI x1.l) (encL encI x1.l)))/\True))))))))))))/\((decide (x1.l.getD (0 + Int.toNat (x4 : Int)) default < (x1.fr.length : Int)) = false)-> ((((-9223372036854775808 : Int) <= (x4 : Int) + 1)/\((x4 : Int) + 1 <= (9223372036854775807 : Int)))/\(∃ x14 : Nat, ((x1.l.length - x14 < x1.l.length - x4)/\((x14 <= x1.l.length)/\((((x4 : Int) + 1 = (x14 : Int))/\((gapAt x1 x4 = gapAt x1 x14)/\(((x1.l.length : Int) = (x1.l.length : Int))/\((0=0 /\ x1.l.length = x1.l.length)/\(((0 : Int) = 0)/\((0=0 /\ 0=0)/\(((0=0 /\ x1.fr.length = x1.fr.length)/\((0=0 /\ x1.tw.length = x1.tw.length)/\True))/\((0=0 /\ x1.l.length = x1.l.length)/\True))))))))/\(((0=0 /\ x1.fr.length = x1.fr.length)/\((0=0 /\ x1.tw.length = x1.tw.length)/\True))/\(((RLe x1.fr.length x1.fr.length)/\(RowsEq [.int .i64] x1.fr.length (encL encI x1.fr) (encL encI x1.fr)))/\(((RLe x1.tw.length x1.tw.length)/\(RowsEq [.int .i64] x1.tw.length (encL encI x1.tw) (encL encI x1.tw)))/\(((RLe x1.l.length x1.l.length)/\(RowsEq [.int .i64] x1.l.length (encL encI x1.l) (encL encI x1.l)))/\True))))))))))))/\((decide ((0 : Int) <= x1.l.getD (0 + Int.toNat (x4 : Int)) default) = false)-> ((((-9223372036854775808 : Int) <= (x4 : Int) + 1)/\((x4 : Int) + 1 <= (9223372036854775807 : Int)))/\(∃ x16 : Nat, ((x1.l.length - x16 < x1.l.length - x4)/\((x16 <= x1.l.length)/\((((x4 : Int) + 1 = (x16 : Int))/\((gapAt x1 x4 = gapAt x1 x16)/\(((x1.l.length : Int) = (x1.l.length : Int))/\((0=0 /\ x1.l.length = x1.l.length)/\(((0 : Int) = 0)/\((0=0 /\ 0=0)/\(((0=0 /\ x1.fr.length = x1.fr.length)/\((0=0 /\ x1.tw.length = x1.tw.length)/\True))/\((0=0 /\ x1.l.length = x1.l.length)/\True))))))))/\(((0=0 /\ x1.fr.length = x1.fr.length)/\((0=0 /\ x1.tw.length = x1.tw.length)/\True))/\(((RLe x1.fr.length x1.fr.length)/\(RowsEq [.int .i64] x1.fr.length (encL encI x1.fr) (encL encI x1.fr)))/\(((RLe x1.tw.length x1.tw.length)/\(RowsEq [.int .i64] x1.tw.length (encL encI x1.tw) (encL encI x1.tw)))/\(((RLe x1.l.length x1.l.length)/\(RowsEq [.int .i64] x1.l.length (encL encI x1.l) (encL encI x1.l)))/\True))))))))))))))/\((decide ((x4 : Int) < (x1.l.length : Int)) = false)-> ((gapAt x1 x4 = gapL x1)/\True)))))))))) = (Keeps cfgN0 Try.f27 fdC fdI) by kernel_rfl) (fun x1 => fun h2 => ⟨((0 : Nat)),
⟨(by (try dsimp only at *); omega),
⟨(by (try dsimp only at *); omega),
(by (try dsimp only at *); rfl),rfl,
⟨rfl,rfl⟩,rfl,
⟨rfl,rfl⟩,
⟨⟨rfl,rfl⟩,
⟨rfl,rfl⟩,trivial⟩,
⟨rfl,rfl⟩,trivial⟩,
⟨⟨rfl,rfl⟩,
⟨rfl,rfl⟩,trivial⟩,
⟨⟨Nat.le_refl _⟩,RowsEq.rfl'⟩,
⟨⟨Nat.le_refl _⟩,RowsEq.rfl'⟩,
⟨⟨Nat.le_refl _⟩,RowsEq.rfl'⟩,trivial⟩,
fun x4 => fun h5 => ⟨fun g6 => have h6 := of_decide_eq_true g6; ⟨⟨(by (try dsimp only at *); omega),
(by (try dsimp only at *); omega)⟩,
(by (try dsimp only at *); omega),
fun g7 => have h7 := of_decide_eq_true g7; ⟨fun g8 => have h8 := of_decide_eq_true g8; ⟨fun g9 => have h9 := of_decide_eq_true g9; ⟨⟨(by (try dsimp only at *); omega),
(by (try dsimp only at *); omega)⟩,
(by (try dsimp only at *); omega),
⟨(by (try dsimp only at *); omega),
(by (try dsimp only at *); omega)⟩,
(by (try dsimp only at *); omega),
⟨(by (try dsimp only at *); omega),
(by (try dsimp only at *); omega)⟩,
(x4 + (1 : Nat)),
(by (try dsimp only at *); omega),
(by (try dsimp only at *); omega),
⟨(by (try dsimp only at *); omega),
(by (try dsimp only at *); (simp only [Nat.zero_add, Int.toNat_natCast] at *; rw [gapAt_succ (by omega)]; unfold stepD; rw [if_pos (by omega)])),rfl,
⟨rfl,rfl⟩,rfl,
⟨rfl,rfl⟩,
⟨⟨rfl,rfl⟩,
⟨rfl,rfl⟩,trivial⟩,
⟨rfl,rfl⟩,trivial⟩,
⟨⟨rfl,rfl⟩,
⟨rfl,rfl⟩,trivial⟩,
⟨⟨Nat.le_refl _⟩,RowsEq.rfl'⟩,
⟨⟨Nat.le_refl _⟩,RowsEq.rfl'⟩,
⟨⟨Nat.le_refl _⟩,RowsEq.rfl'⟩,trivial⟩,
fun g11 => have h11 := of_decide_eq_false g11; ⟨⟨(by (try dsimp only at *); omega),
(by (try dsimp only at *); omega)⟩,
(x4 + (1 : Nat)),
(by (try dsimp only at *); omega),
(by (try dsimp only at *); omega),
⟨(by (try dsimp only at *); omega),
(by (try dsimp only at *); (simp only [nat0] at *; rw [gapAt_succ (by omega)]; unfold stepD; rw [if_neg (by omega)])),rfl,
⟨rfl,rfl⟩,rfl,
⟨rfl,rfl⟩,
⟨⟨rfl,rfl⟩,
⟨rfl,rfl⟩,trivial⟩,
⟨rfl,rfl⟩,trivial⟩,
⟨⟨rfl,rfl⟩,
⟨rfl,rfl⟩,trivial⟩,
⟨⟨Nat.le_refl _⟩,RowsEq.rfl'⟩,
⟨⟨Nat.le_refl _⟩,RowsEq.rfl'⟩,
⟨⟨Nat.le_refl _⟩,RowsEq.rfl'⟩,trivial⟩⟩,
fun g13 => have h13 := of_decide_eq_false g13; ⟨⟨(by (try dsimp only at *); omega),
(by (try dsimp only at *); omega)⟩,
(x4 + (1 : Nat)),
(by (try dsimp only at *); omega),
(by (try dsimp only at *); omega),
⟨(by (try dsimp only at *); omega),
(by (try dsimp only at *); (simp only [nat0] at *; rw [gapAt_succ (by omega)]; unfold stepD; rw [if_neg (by omega)])),rfl,
⟨rfl,rfl⟩,rfl,
⟨rfl,rfl⟩,
⟨⟨rfl,rfl⟩,
⟨rfl,rfl⟩,trivial⟩,
⟨rfl,rfl⟩,trivial⟩,
⟨⟨rfl,rfl⟩,
⟨rfl,rfl⟩,trivial⟩,
⟨⟨Nat.le_refl _⟩,RowsEq.rfl'⟩,
⟨⟨Nat.le_refl _⟩,RowsEq.rfl'⟩,
⟨⟨Nat.le_refl _⟩,RowsEq.rfl'⟩,trivial⟩⟩,
fun g15 => have h15 := of_decide_eq_false g15; ⟨⟨(by (try dsimp only at *); omega),
(by (try dsimp only at *); omega)⟩,
(x4 + (1 : Nat)),
(by (try dsimp only at *); omega),
(by (try dsimp only at *); omega),
⟨(by (try dsimp only at *); omega),
(by (try dsimp only at *); (simp only [nat0] at *; rw [gapAt_succ (by omega)]; unfold stepD; rw [if_neg (by omega)])),rfl,
⟨rfl,rfl⟩,rfl,
⟨rfl,rfl⟩,
⟨⟨rfl,rfl⟩,
⟨rfl,rfl⟩,trivial⟩,
⟨rfl,rfl⟩,trivial⟩,
⟨⟨rfl,rfl⟩,
⟨rfl,rfl⟩,trivial⟩,
⟨⟨Nat.le_refl _⟩,RowsEq.rfl'⟩,
⟨⟨Nat.le_refl _⟩,RowsEq.rfl'⟩,
⟨⟨Nat.le_refl _⟩,RowsEq.rfl'⟩,trivial⟩⟩,
fun g17 => have h17 := of_decide_eq_false g17; ⟨(by (try dsimp only at *); exact gapAt_full ‹_› ‹_›),trivial⟩⟩⟩)
theorem fd_good : Good Try.prog 27 fdC /\ FnOk Try.prog 27 := good_of tok conN0 (fn := Try.f27) rfl (by decide +kernel) (fun _ => rfl) fd_keeps
def newFC : CT where
 X := FX
 pre := FXok
 args := (fromC true).args
 g0 := (fromC true).g0
 res := fun x => .agg [.sl 1 0 x.g.n, .sl 2 0 x.g.n]
 g1 := fun x => [(1, .rows .own k1 x.g.n (encL encI (distG x.g x.ts x.src true))), (2, .rows .own k1 x.g.n (encL encI (distG x.g x.ts x.src false)))]
def cfgU9 : Cfg := ⟨T, [], [(39, .one (fromC true)), (40, .one (fromC false))], noInv, 20, {}⟩
theorem conU9 : ConOk Try.prog cfgU9 := ConL.ok (.cons (ConL.one from_good) (.cons (ConL.one to_good) .nil))
set_option maxRecDepth 100000 in
theorem newF_keeps : Keeps cfgU9 Try.f26 newFC noIv := Eq.mp (show ((∀ x1 : FX, ((FXok x1)-> (∃ x3 : FX, ((FXok x3)/\(((0=0 /\ 0=0)/\((0=0 /\ x1.ts.length = x3.ts.length)/\((0=0 /\ x1.src.length = x3.src.length)/\True)))/\(((RLe 1 1/\(RowsEq [.sl [.int .i64, .int .i64, .int .i64], .sl [.sl [.int .i64]], .sl [.sl [.int .i64]]] 1 (encG x1.g) (encG x3.g)))/\(((RLe x3.ts.length x1.ts.length)/\(RowsEq [.int .i64] x3.ts.length (encL encI x1.ts) (encL encI x3.ts)))/\(((RLe x3.src.length x1.src.length)/\(RowsEq [.int .i64] x3.src.length (encL encI x1.src) (encL encI x3.src)))/\True)))/\(∃ x4 : FX, ((FXok x4)/\(((0=0 /\ 0=0)/\((0=0 /\ x1.ts.length = x4.ts.length)/\((0=0 /\ x1.src.length = x4.src.length)/\True)))/\(((RLe 1 1/\(RowsEq [.sl [.int .i64, .int .i64, .int .i64], .sl [.sl [.int .i64]], .sl [.sl [.int .i64]]] 1 (encG x1.g) (encG x4.g)))/\(((RLe x4.ts.length x1.ts.length)/\(RowsEq [.int .i64] x4.ts.length (encL encI x1.ts) (encL encI x4.ts)))/\(((RLe x4.src.length x1.src.length)/\(RowsEq [.int .i64] x4.src.length (encL encI x1.src) (encL encI x4.src)))/\True)))/\(((0=0 /\ x3.g.n = x1.g.n)/\((0=0 /\ x4.g.n = x1.g.n)/\True))/\(((RLe x1.g.n x3.g.n)/\(RowsEq [.int .i64] x1.g.n (encL encI (distG x3.g x3.ts x3.src true)) (encL encI (distG x1.g x1.ts x1.src true))))/\(((RLe x1.g.n x4.g.n)/\(RowsEq [.int .i64] x1.g.n (encL encI (distG x4.g x4.ts x4.src false)) (encL encI (distG x1.g x1.ts x1.src false))))/\True)))))))))))))) = (Keeps cfgU9 Try.f26 newFC noIv) by kernel_rfl) (fun x1 => fun h2 => ⟨(x1),
(by (try dsimp only at *); omega),
⟨⟨rfl,rfl⟩,
⟨rfl,rfl⟩,
⟨rfl,rfl⟩,trivial⟩,
⟨⟨⟨Nat.le_refl _⟩,RowsEq.rfl'⟩,
⟨⟨Nat.le_refl _⟩,RowsEq.rfl'⟩,
⟨⟨Nat.le_refl _⟩,RowsEq.rfl'⟩,trivial⟩,
(x1),
(by (try dsimp only at *); omega),
⟨⟨rfl,rfl⟩,
⟨rfl,rfl⟩,
⟨rfl,rfl⟩,trivial⟩,
⟨⟨⟨Nat.le_refl _⟩,RowsEq.rfl'⟩,
⟨⟨Nat.le_refl _⟩,RowsEq.rfl'⟩,
⟨⟨Nat.le_refl _⟩,RowsEq.rfl'⟩,trivial⟩,
⟨⟨rfl,rfl⟩,
⟨rfl,rfl⟩,trivial⟩,
⟨⟨Nat.le_refl _⟩,RowsEq.rfl'⟩,
⟨⟨Nat.le_refl _⟩,RowsEq.rfl'⟩,trivial⟩)
theorem newF_good : Good Try.prog 26 newFC /\ FnOk Try.prog 26 := good_of tok conU9 (fn := Try.f26) rfl (by decide +kernel) (fun _ => rfl) newF_keeps
structure GAx where
 g : Gr
 ts : List Int
 a : List Int
 b : List Int
structure GAok (x : GAx) : Prop where
 g : GOk x.g
 n : x.g.n <= 12
 a : x.a.length <= 1048576
 b : x.b.length <= 1048576
theorem GAok.l {x : GAx} (h : GAok x) : FXok ⟨x.g, x.ts, x.a⟩ := ⟨h.g, h.n, h.a⟩
theorem GAok.r {x : GAx} (h : GAok x) : FXok ⟨x.g, x.ts, x.b⟩ := ⟨h.g, h.n, h.b⟩
theorem distG_len {g : Gr} (hg : GOk g) (ts src : List Int) (f : Bool) : (distG g ts src f).length = g.n := distF_len (netG_ok hg (wsOk_tt g ts) f) _
def fdOf (g : Gr) (ts a b : List Int) : FDx := ⟨distG g ts a true, distG g ts a false, b⟩
theorem gap_fd {g : Gr} (hg : GOk g) (ts a b : List Int) : gapL (fdOf g ts a b) = gapP g ts a b := by
 unfold gapL gapP minN fdOf INF
 dsimp only
 have e : stepD (distG g ts a true) (distG g ts a false) = fun m (v : Int) => if 0 <= v /\ v < (g.n : Int) then min m (min (atI (distG g ts a true) v) (atI (distG g ts a false) v)) else m := by
  funext m v
  unfold stepD atI
  rw [distG_len hg, distG_len hg]
  by_cases h : 0 <= v /\ v < (g.n : Int)
  ·rw [if_pos h, if_pos ⟨h.1, h.2, h.2⟩]; omega
  ·rw [if_neg h, if_neg (fun q => h ⟨q.1, q.2.1⟩)]
 rw [e]
def gapC : CT where
 X := GAx
 pre := GAok
 args := fun x => [.p 100000 0 0, .sl 100001 0 x.ts.length, .sl 100002 0 x.a.length, .sl 100003 0 x.b.length]
 g0 := fun x => graphH x.g 100000 ++ [(100001, .rows .bor k1 x.ts.length (encL encI x.ts)), (100002, .rows .bor k1 x.a.length (encL encI x.a)), (100003, .rows .bor k1 x.b.length (encL encI x.b))]
 res := fun x => .i .i64 (gapP x.g x.ts x.a x.b)
 g1 := fun _ => []
def cfgUa : Cfg := ⟨T, [], [(26, .one newFC), (27, .one fdC)], noInv, 20, {}⟩
theorem conUa : ConOk Try.prog cfgUa := ConL.ok (.cons (ConL.one newF_good) (.cons (ConL.one fd_good) .nil))
set_option maxRecDepth 100000 in
theorem gap_keeps : Keeps cfgUa Try.f11 gapC noIv := Eq.mp (show ((∀ x1 : GAx, ((GAok x1)-> (∃ x3 : FX, ((FXok x3)/\(((0=0 /\ 0=0)/\((0=0 /\ x1.ts.length = x3.ts.length)/\((0=0 /\ x1.a.length = x3.src.length)/\True)))/\(((RLe 1 1/\(RowsEq [.sl [.int .i64, .int .i64, .int .i64], .sl [.sl [.int .i64]], .sl [.sl [.int .i64]]] 1 (encG x1.g) (encG x3.g)))/\(((RLe x3.ts.length x1.ts.length)/\(RowsEq [.int .i64] x3.ts.length (encL encI x1.ts) (encL encI x3.ts)))/\(((RLe x3.src.length x1.a.length)/\(RowsEq [.int .i64] x3.src.length (encL encI x1.a) (encL encI x3.src)))/\True)))/\(∃ x4 : FDx, (((x4.l.length <= (1073741824 : Nat))/\((x4.fr.length <= (1073741824 : Nat))/\(x4.tw.length <= (1073741824 : Nat))))/\((((0=0 /\ x3.g.n = x4.fr.length)/\((0=0 /\ x3.g.n = x4.tw.length)/\True))/\((0=0 /\ x1.b.length = x4.l.length)/\True))/\((((RLe x4.fr.length x3.g.n)/\(RowsEq [.int .i64] x4.fr.length (encL encI (distG x3.g x3.ts x3.src true)) (encL encI x4.fr)))/\(((RLe x4.tw.length x3.g.n)/\(RowsEq [.int .i64] x4.tw.length (encL encI (distG x3.g x3.ts x3.src false)) (encL encI x4.tw)))/\(((RLe x4.l.length x1.b.length)/\(RowsEq [.int .i64] x4.l.length (encL encI x1.b) (encL encI x4.l)))/\True)))/\((gapL x4 = gapP x1.g x1.ts x1.a x1.b)/\True)))))))))))) = (Keeps cfgUa Try.f11 gapC noIv) by kernel_rfl) (fun x1 => fun h2 => ⟨({ g := GAx.g x1, ts := GAx.ts x1, src := GAx.a x1 : FX }),
(by (try dsimp only at *); exact h2.l),
⟨⟨rfl,rfl⟩,
⟨rfl,rfl⟩,
⟨rfl,rfl⟩,trivial⟩,
⟨⟨⟨Nat.le_refl _⟩,RowsEq.rfl'⟩,
⟨⟨Nat.le_refl _⟩,RowsEq.rfl'⟩,
⟨⟨Nat.le_refl _⟩,RowsEq.rfl'⟩,trivial⟩,
(fdOf (GAx.g x1) (GAx.ts x1) (GAx.a x1) (GAx.b x1)),
⟨(by (try dsimp only at *); (have := h2.b; show x1.b.length <= _; omega)),
(by (try dsimp only at *); (have := h2.n; show (distG x1.g x1.ts x1.a _).length <= _; rw [distG_len h2.g]; omega)),
(by (try dsimp only at *); (have := h2.n; show (distG x1.g x1.ts x1.a _).length <= _; rw [distG_len h2.g]; omega))⟩,
⟨⟨⟨rfl,
(by (try dsimp only at *); (show _ = (distG x1.g x1.ts x1.a _).length; rw [distG_len h2.g]))⟩,
⟨rfl,
(by (try dsimp only at *); (show _ = (distG x1.g x1.ts x1.a _).length; rw [distG_len h2.g]))⟩,trivial⟩,
⟨rfl,
(by (try dsimp only at *); rfl)⟩,trivial⟩,
⟨⟨⟨(by (try dsimp only at *); (show (distG x1.g x1.ts x1.a _).length <= _; rw [distG_len h2.g]; exact Nat.le_refl _))⟩,
(by (try dsimp only at *); exact RowsEq.rfl')⟩,
⟨⟨(by (try dsimp only at *); (show (distG x1.g x1.ts x1.a _).length <= _; rw [distG_len h2.g]; exact Nat.le_refl _))⟩,
(by (try dsimp only at *); exact RowsEq.rfl')⟩,
⟨⟨(by (try dsimp only at *); (have := h2.b; show x1.b.length <= _; omega))⟩,
(by (try dsimp only at *); exact RowsEq.rfl')⟩,trivial⟩,
(by (try dsimp only at *); exact gap_fd h2.g _ _ _),trivial⟩)
theorem gap_good : Good Try.prog 11 gapC /\ FnOk Try.prog 11 := good_of tok conUa (fn := Try.f11) rfl (by decide +kernel) (fun _ => rfl) gap_keeps
end Go.Sym