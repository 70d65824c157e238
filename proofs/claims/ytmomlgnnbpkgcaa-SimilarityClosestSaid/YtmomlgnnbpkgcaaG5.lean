import Derived.Test.YtmomlgnnbpkgcaaG4
import Derived.Test.YtmomlgnnbpkgcaaXD
namespace Go.Sym
set_option linter.unusedVariables false
set_option linter.unusedSimpArgs false
open Go.Proofs
def graphH (g : Gr) (l : Nat) : List (Nat × Blk) := [(l, .rows .bor kG 1 (encG g))]
def nodesC : CT where
 X := Gr
 pre := fun _ => True
 args := fun g => [.p 100000 0 0]
 g0 := fun g => graphH g 100000
 res := fun g => .i .i64 g.n
 g1 := fun _ => []
set_option maxRecDepth 100000 in
theorem nodes_keeps : Keeps cfgN0 Try.f52 nodesC noIv := Eq.mp (show ((∀ x1 : Gr, (True -> ((0 < (1 : Nat))/\(((x1.n : Int) = (x1.n : Int))/\True))))) = (Keeps cfgN0 Try.f52 nodesC noIv) by kernel_rfl) (fun x1 => fun h2 => ⟨(by omega),rfl,trivial⟩)
def edgesC : CT where
 X := Gr
 pre := fun _ => True
 args := fun g => [.p 100000 0 0]
 g0 := fun g => graphH g 100000
 res := fun g => .i .i64 g.es.length
 g1 := fun _ => []
set_option maxRecDepth 100000 in
theorem edges_keeps : Keeps cfgN0 Try.f59 edgesC noIv := Eq.mp (show ((∀ x1 : Gr, (True -> ((0 < (1 : Nat))/\(((x1.es.length : Int) = (x1.es.length : Int))/\True))))) = (Keeps cfgN0 Try.f59 edgesC noIv) by kernel_rfl) (fun x1 => fun h2 => ⟨(by omega),rfl,trivial⟩)
structure GIx where
 g : Gr
 i : Int
def edAt (x : GIx) : Ed := if 0 <= x.i /\ x.i < x.g.es.length then x.g.es.getD x.i.toNat default else default
def edgeC : CT where
 X := GIx
 pre := fun _ => True
 args := fun x => [.p 100000 0 0, .i .i64 x.i]
 g0 := fun x => graphH x.g 100000
 res := fun x => .tup [.agg [.i .i64 (edAt x).f, .i .i64 (edAt x).t, .i .i64 (edAt x).d], .b (decide (0 <= x.i /\ x.i < x.g.es.length))]
 g1 := fun _ => []
theorem edAt_no {x : GIx} (h : ¬ (0 <= x.i /\ x.i < x.g.es.length)) : edAt x = default := if_neg h
theorem edAt_yes {x : GIx} (h : 0 <= x.i /\ x.i < x.g.es.length) : edAt x = x.g.es.getD x.i.toNat default := if_pos h
set_option maxRecDepth 100000 in
theorem edge_keeps : Keeps cfgN0 Try.f58 edgeC noIv := Eq.mp (show ((∀ x1 : GIx, (True -> (((decide (x1.i < (0 : Int)) = false)-> ((0 < (1 : Nat))/\(((decide ((x1.g.es.length : Int) <= x1.i) = true)-> ((((0 = (edAt x1).f)/\((0 = (edAt x1).t)/\((0 = (edAt x1).d)/\True)))/\((false = decide ((0 : Int) <= x1.i /\ x1.i < (x1.g.es.length : Int)))/\True))/\True))/\((decide ((x1.g.es.length : Int) <= x1.i) = false)-> ((0 < (1 : Nat))/\((((0 : Int) <= x1.i)/\(x1.i < (x1.g.es.length : Int)))/\((0 + Int.toNat x1.i < x1.g.es.length)/\(((((x1.g.es.getD (0 + Int.toNat x1.i) default).f = (edAt x1).f)/\(((x1.g.es.getD (0 + Int.toNat x1.i) default).t = (edAt x1).t)/\(((x1.g.es.getD (0 + Int.toNat x1.i) default).d = (edAt x1).d)/\True)))/\((true = decide ((0 : Int) <= x1.i /\ x1.i < (x1.g.es.length : Int)))/\True))/\True))))))))/\((decide (x1.i < (0 : Int)) = true)-> ((((0 = (edAt x1).f)/\((0 = (edAt x1).t)/\((0 = (edAt x1).d)/\True)))/\((false = decide ((0 : Int) <= x1.i /\ x1.i < (x1.g.es.length : Int)))/\True))/\True)))))) = (Keeps cfgN0 Try.f58 edgeC noIv) by kernel_rfl) (fun x1 => fun h2 => ⟨fun g3 => have h3 := of_decide_eq_false g3; ⟨(by omega),
fun g4 => have h4 := of_decide_eq_true g4; ⟨⟨⟨(by (rw [edAt_no (by omega)]; rfl)),
(by (rw [edAt_no (by omega)]; rfl)),
(by (rw [edAt_no (by omega)]; rfl)),trivial⟩,
(by grind),trivial⟩,trivial⟩,
fun g5 => have h5 := of_decide_eq_false g5; ⟨(by omega),
⟨(by omega),
(by omega)⟩,
(by omega),
⟨⟨(by (rw [edAt_yes (by omega), Nat.zero_add])),
(by (rw [edAt_yes (by omega), Nat.zero_add])),
(by (rw [edAt_yes (by omega), Nat.zero_add])),trivial⟩,
(by grind),trivial⟩,trivial⟩⟩,
fun g6 => have h6 := of_decide_eq_true g6; ⟨⟨⟨(by (rw [edAt_no (by omega)]; rfl)),
(by (rw [edAt_no (by omega)]; rfl)),
(by (rw [edAt_no (by omega)]; rfl)),trivial⟩,
(by grind),trivial⟩,trivial⟩⟩)
structure LLx where
 n : Nat
 f : Nat -> List Int
 i : Int
def enumC : CT where
 X := LLx
 pre := fun _ => True
 args := fun x => [.sl 100000 0 x.n, .i .i64 x.i]
 g0 := fun x => [(100000, .rows .bor kLL x.n (encLL x.f))]
 res := fun x => .fn 68 [.p 1 0 0, .p 2 0 0]
 g1 := fun x => [(1, .one .own [.i .i64 x.i]), (2, .one .own [.sl 100000 0 x.n])]
set_option maxRecDepth 100000 in
theorem enum_keeps : Keeps cfgN0 Try.f63 enumC noIv := Eq.mp (show ((∀ x1 : LLx, (True -> (((0=0 /\ 0=0)/\((0=0 /\ 0=0)/\True))/\((x1.i = x1.i/\True)/\(((0=0 /\ x1.n = x1.n)/\True)/\True)))))) = (Keeps cfgN0 Try.f63 enumC noIv) by kernel_rfl) (fun x1 => fun h2 => ⟨⟨⟨rfl,rfl⟩,
⟨rfl,rfl⟩,trivial⟩,
⟨rfl,trivial⟩,
⟨⟨rfl,rfl⟩,trivial⟩,trivial⟩)
theorem nodes_good : Good Try.prog 52 nodesC /\ FnOk Try.prog 52 := good_of tok conN0 (fn := Try.f52) rfl (by decide +kernel) (fun _ => rfl) nodes_keeps
theorem edges_good : Good Try.prog 59 edgesC /\ FnOk Try.prog 59 := good_of tok conN0 (fn := Try.f59) rfl (by decide +kernel) (fun _ => rfl) edges_keeps
theorem edge_good : Good Try.prog 58 edgeC /\ FnOk Try.prog 58 := good_of tok conN0 (fn := Try.f58) rfl (by decide +kernel) (fun _ => rfl) edge_keeps
theorem enum_good : Good Try.prog 63 enumC /\ FnOk Try.prog 63 := good_of tok conN0 (fn := Try.f63) rfl (by decide +kernel) (fun _ => rfl) enum_keeps
def cfgOut : Cfg := ⟨T, [], [(63, .one enumC)], noInv, 20, {}⟩
theorem conOut : ConOk Try.prog cfgOut := ConL.ok (.cons (ConL.one enum_good) .nil)
def outC (s : Bool) : CT where
 X := GIx
 pre := fun _ => True
 args := fun x => [.p 100000 0 0, .i .i64 x.i]
 g0 := fun x => graphH x.g 100000
 res := fun x => .fn 68 [.p 1 0 0, .p 2 0 0]
 g1 := fun x => [(1, .one .own [.i .i64 x.i]), (2, .one .own [.sl 3 0 x.g.n]), (3, .rows .fz kLL x.g.n (encLL (adjG x.g s)))]
set_option maxRecDepth 100000 in
theorem out_keeps : Keeps cfgOut Try.f56 (outC true) noIv := Eq.mp (show ((∀ x1 : GIx, (True -> ((0 < (1 : Nat))/\(∃ x3 : LLx, (True/\(((0=0 /\ x1.g.n = x3.n)/\(x1.i = x3.i/\True))/\((((RLe x3.n x1.g.n)/\(RowsEq [.sl [.int .i64]] x3.n (D.toF (D.l x1.g.n (encLL (adjG x1.g true)))) (encLL x3.f)))/\True)/\(((0=0 /\ 0=0)/\((0=0 /\ 0=0)/\True))/\((x3.i = x1.i/\True)/\(((0=0 /\ x3.n = x1.g.n)/\True)/\(((RLe x1.g.n x1.g.n)/\(RowsEq [.sl [.int .i64]] x1.g.n (D.toF (D.l x1.g.n (encLL (adjG x1.g true)))) (encLL (adjG x1.g true))))/\True)))))))))))) = (Keeps cfgOut Try.f56 (outC true) noIv) by kernel_rfl) (fun x1 => fun h2 => ⟨(by omega),
({ n := Gr.n (GIx.g x1), f := adjG (GIx.g x1) true, i := GIx.i x1 : LLx }),trivial,
⟨⟨rfl,rfl⟩,rfl,trivial⟩,
⟨⟨⟨Nat.le_refl _⟩,
(by (try dsimp only at *); exact RowsEq.rfl')⟩,trivial⟩,
⟨⟨rfl,rfl⟩,
⟨rfl,rfl⟩,trivial⟩,
⟨rfl,trivial⟩,
⟨⟨rfl,rfl⟩,trivial⟩,
⟨⟨Nat.le_refl _⟩,
(by (try dsimp only at *); exact RowsEq.rfl')⟩,trivial⟩)
set_option maxRecDepth 100000 in
theorem in_keeps : Keeps cfgOut Try.f55 (outC false) noIv := Eq.mp (show ((∀ x1 : GIx, (True -> ((0 < (1 : Nat))/\(∃ x3 : LLx, (True/\(((0=0 /\ x1.g.n = x3.n)/\(x1.i = x3.i/\True))/\((((RLe x3.n x1.g.n)/\(RowsEq [.sl [.int .i64]] x3.n (D.toF (D.l x1.g.n (encLL (adjG x1.g false)))) (encLL x3.f)))/\True)/\(((0=0 /\ 0=0)/\((0=0 /\ 0=0)/\True))/\((x3.i = x1.i/\True)/\(((0=0 /\ x3.n = x1.g.n)/\True)/\(((RLe x1.g.n x1.g.n)/\(RowsEq [.sl [.int .i64]] x1.g.n (D.toF (D.l x1.g.n (encLL (adjG x1.g false)))) (encLL (adjG x1.g false))))/\True)))))))))))) = (Keeps cfgOut Try.f55 (outC false) noIv) by kernel_rfl) (fun x1 => fun h2 => ⟨(by omega),
({ n := Gr.n (GIx.g x1), f := adjG (GIx.g x1) false, i := GIx.i x1 : LLx }),trivial,
⟨⟨rfl,rfl⟩,rfl,trivial⟩,
⟨⟨⟨Nat.le_refl _⟩,
(by (try dsimp only at *); exact RowsEq.rfl')⟩,trivial⟩,
⟨⟨rfl,rfl⟩,
⟨rfl,rfl⟩,trivial⟩,
⟨rfl,trivial⟩,
⟨⟨rfl,rfl⟩,trivial⟩,
⟨⟨Nat.le_refl _⟩,
(by (try dsimp only at *); exact RowsEq.rfl')⟩,trivial⟩)
theorem out_good : Good Try.prog 56 (outC true) /\ FnOk Try.prog 56 := good_of tok conOut (fn := Try.f56) rfl (by decide +kernel) (fun _ => rfl) out_keeps
theorem in_good : Good Try.prog 55 (outC false) /\ FnOk Try.prog 55 := good_of tok conOut (fn := Try.f55) rfl (by decide +kernel) (fun _ => rfl) in_keeps
end Go.Sym