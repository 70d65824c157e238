import Derived.Test.YtplpefihhhcbbaaDoorR7
import Derived.Test.YtplpefihhhcbbaaDoorXD
namespace Go.Sym
set_option linter.unusedVariables false
set_option linter.unusedSimpArgs false
open Go.Proofs
set_option maxHeartbeats 4000000
structure BX where
 g : Gr
 ts : List Int
 of : List Int
 u : Int
def boundR (x : BX) : Int × List Int := if x.u < 0 ∨ 4 < x.u then (0, []) else if x.u = 0 then ((worstR x.g x.ts [] x.of).1, []) else putR x.g x.ts x.of x.u.toNat [] 0
structure BXok (x : BX) : Prop where
 g : GOk x.g
 n : x.g.n <= 12
 of : x.of.length <= 1048576
def vboundC : CT where
 X := BX
 pre := BXok
 args := fun x => [netA x.g, .sl 100001 0 x.ts.length, .sl 100002 0 x.of.length, .i .i64 x.u]
 g0 := fun x => [(100000, .rows .bor kE x.g.es.length (encL encE x.g.es)), (100001, .rows .bor k1 x.ts.length (encL encI x.ts)), (100002, .rows .bor k1 x.of.length (encL encI x.of))]
 res := fun x => .tup [.i .i64 (boundR x).1, .sl 1 0 (boundR x).2.length]
 g1 := fun x => [(1, .rows .bor k1 (boundR x).2.length (encL encI (boundR x).2))]
def cfgVb : Cfg := ⟨T, [], [(36, .one vworstC), (41, .one (putC 5))], noInv, 50, {}⟩
theorem conVb : ConOk Tryd.prog cfgVb := ConL.ok (.cons (ConL.one vworst_good) (.cons (ConL.one (put_good 5)) .nil))
theorem bound_out {x : BX} (h : x.u < 0 ∨ 4 < x.u) : boundR x = (0, []) := if_pos h
theorem bound_0 {x : BX} (h : x.u = 0) : boundR x = ((worstR x.g x.ts [] x.of).1, []) := by unfold boundR; rw [if_neg (by omega), if_pos h]
theorem bound_put {x : BX} (h : ¬ x.u < 0) (h1 : ¬ 4 < x.u) (h2 : ¬ x.u = 0) : boundR x = putR x.g x.ts x.of x.u.toNat [] 0 := by unfold boundR; rw [if_neg (by omega), if_neg h2]
set_option maxRecDepth 100000 in
theorem vbound_keeps : Keeps cfgVb Tryd.f17 vboundC noIv := Eq.mp (show ((∀ x1 : BX, ((BXok x1)-> (((decide (12 < (x1.g.n : Int)) = false)-> (((decide (x1.u < (0 : Int)) = false)-> (((decide (4 < x1.u) = true)-> ((((0 : Int) = Prod.fst (boundR x1))/\((True/\(0=0/\((Prod.snd (boundR x1)).length = (0 : Nat))))/\True))/\(((Prod.snd (boundR x1)).length = (0 : Nat))/\True)))/\((decide (4 < x1.u) = false)-> (((decide (x1.u = (0 : Int)) = true)-> (∃ x8 : WX, ((WXok x8)/\(((((x1.g.n : Int) = (x8.g.n : Int))/\((0=0 /\ x1.g.es.length = x8.g.es.length)/\True))/\((0=0 /\ x1.ts.length = x8.ts.length)/\((True/\(0=0/\(x8.src.length = (0 : Nat))))/\((0=0 /\ x1.of.length = x8.of.length)/\True))))/\((((RLe x8.g.es.length x1.g.es.length)/\(RowsEq [.int .i64, .int .i64, .int .i64] x8.g.es.length (encL encE x1.g.es) (encL encE x8.g.es)))/\(((RLe x8.ts.length x1.ts.length)/\(RowsEq [.int .i64] x8.ts.length (encL encI x1.ts) (encL encI x8.ts)))/\((x8.src.length = (0 : Nat))/\(((RLe x8.of.length x1.of.length)/\(RowsEq [.int .i64] x8.of.length (encL encI x1.of) (encL encI x8.of)))/\True))))/\(((Prod.fst (worstR x8.g x8.ts x8.src x8.of) = Prod.fst (boundR x1))/\((True/\(0=0/\((Prod.snd (boundR x1)).length = (0 : Nat))))/\True))/\(((Prod.snd (boundR x1)).length = (0 : Nat))/\True)))))))/\((decide (x1.u = (0 : Int)) = false)-> (∃ x10 : PX, (((PXok x10)/\(x10.more < (5 : Nat)))/\(((((x1.g.n : Int) = (x10.g.n : Int))/\((0=0 /\ x1.g.es.length = x10.g.es.length)/\True))/\((0=0 /\ x1.ts.length = x10.ts.length)/\((0=0 /\ x1.of.length = x10.of.length)/\((True/\(0=0/\(x10.there.length = (0 : Nat))))/\((0 = (x10.from_ : Int))/\((x1.u = (x10.more : Int))/\True))))))/\((((RLe x10.g.es.length x1.g.es.length)/\(RowsEq [.int .i64, .int .i64, .int .i64] x10.g.es.length (encL encE x1.g.es) (encL encE x10.g.es)))/\(((RLe x10.ts.length x1.ts.length)/\(RowsEq [.int .i64] x10.ts.length (encL encI x1.ts) (encL encI x10.ts)))/\(((RLe x10.of.length x1.of.length)/\(RowsEq [.int .i64] x10.of.length (encL encI x1.of) (encL encI x10.of)))/\((x10.there.length = (0 : Nat))/\True))))/\(((Prod.fst (putL x10) = Prod.fst (boundR x1))/\((0=0/\((Prod.snd (putL x10)).length = (Prod.snd (boundR x1)).length))/\True))/\(((RLe (Prod.snd (boundR x1)).length (Prod.snd (putL x10)).length)/\(RowsEq [.int .i64] (Prod.snd (boundR x1)).length (encL encI (Prod.snd (putL x10))) (encL encI (Prod.snd (boundR x1)))))/\True)))))))))))/\((decide (x1.u < (0 : Int)) = true)-> ((((0 : Int) = Prod.fst (boundR x1))/\((True/\(0=0/\((Prod.snd (boundR x1)).length = (0 : Nat))))/\True))/\(((Prod.snd (boundR x1)).length = (0 : Nat))/\True)))))/\((decide (12 < (x1.g.n : Int)) = true)-> ((((0 : Int) = Prod.fst (boundR x1))/\((True/\(0=0/\((Prod.snd (boundR x1)).length = (0 : Nat))))/\True))/\(((Prod.snd (boundR x1)).length = (0 : Nat))/\True))))))) = (Keeps cfgVb Tryd.f17 vboundC noIv) by kernel_rfl) (fun x1 => fun h2 => ⟨fun g3 => have h3 := of_decide_eq_false g3; ⟨fun g4 => have h4 := of_decide_eq_false g4; ⟨fun g5 => have h5 := of_decide_eq_true g5; ⟨⟨(by ((have e := (bound_out (x := x1) (by omega)); first | exact congrArg Prod.fst e | exact (congrArg Prod.fst e).symm | (show _ = (_ : Nat); rw [e]; done) | (rw [e]; exact Nat.le_refl _) | (rw [e]; exact RowsEq.rfl') | (rw [e]; rfl)))),
⟨trivial,rfl,
(by ((have e := (bound_out (x := x1) (by omega)); first | exact congrArg Prod.fst e | exact (congrArg Prod.fst e).symm | (show _ = (_ : Nat); rw [e]; done) | (rw [e]; exact Nat.le_refl _) | (rw [e]; exact RowsEq.rfl') | (rw [e]; rfl))))⟩,trivial⟩,
(by ((have e := (bound_out (x := x1) (by omega)); first | exact congrArg Prod.fst e | exact (congrArg Prod.fst e).symm | (show _ = (_ : Nat); rw [e]; done) | (rw [e]; exact Nat.le_refl _) | (rw [e]; exact RowsEq.rfl') | (rw [e]; rfl)))),trivial⟩,
fun g6 => have h6 := of_decide_eq_false g6; ⟨fun g7 => have h7 := of_decide_eq_true g7; ⟨({ g := BX.g x1, ts := BX.ts x1, src := @List.nil Int, of := BX.of x1 : WX }),
(by (try dsimp only at *); exact ⟨⟨h2.g, h2.n, Nat.zero_le _⟩, h2.of⟩),
⟨⟨rfl,
⟨rfl,rfl⟩,trivial⟩,
⟨rfl,rfl⟩,
⟨trivial,rfl,
(by (try dsimp only at *); grind)⟩,
⟨rfl,rfl⟩,trivial⟩,
⟨⟨⟨Nat.le_refl _⟩,RowsEq.rfl'⟩,
⟨⟨Nat.le_refl _⟩,RowsEq.rfl'⟩,
(by (try dsimp only at *); grind),
⟨⟨Nat.le_refl _⟩,RowsEq.rfl'⟩,trivial⟩,
⟨(by (try dsimp only at *); ((have e := (bound_0 (x := x1) h7); first | exact congrArg Prod.fst e | exact (congrArg Prod.fst e).symm | (show _ = (_ : Nat); rw [e]; done) | (rw [e]; exact Nat.le_refl _) | (rw [e]; exact RowsEq.rfl') | (rw [e]; rfl)))),
⟨trivial,rfl,
(by (try dsimp only at *); ((have e := (bound_0 (x := x1) h7); first | exact congrArg Prod.fst e | exact (congrArg Prod.fst e).symm | (show _ = (_ : Nat); rw [e]; done) | (rw [e]; exact Nat.le_refl _) | (rw [e]; exact RowsEq.rfl') | (rw [e]; rfl))))⟩,trivial⟩,
(by (try dsimp only at *); ((have e := (bound_0 (x := x1) h7); first | exact congrArg Prod.fst e | exact (congrArg Prod.fst e).symm | (show _ = (_ : Nat); rw [e]; done) | (rw [e]; exact Nat.le_refl _) | (rw [e]; exact RowsEq.rfl') | (rw [e]; rfl)))),trivial⟩,
fun g9 => have h9 := of_decide_eq_false g9; ⟨({ g := BX.g x1, ts := BX.ts x1, of := BX.of x1, there := @List.nil Int, from_ := (0 : Nat), more := Int.toNat (BX.u x1) : PX }),
⟨(by (try dsimp only at *); exact ⟨h2.g, h2.n, h2.of, by show 0 + x1.u.toNat <= 4; omega⟩),
(by (try dsimp only at *); omega)⟩,
⟨⟨rfl,
⟨rfl,rfl⟩,trivial⟩,
⟨rfl,rfl⟩,
⟨rfl,rfl⟩,
⟨trivial,rfl,
(by (try dsimp only at *); grind)⟩,
(by (try dsimp only at *); omega),
(by (try dsimp only at *); omega),trivial⟩,
⟨⟨⟨Nat.le_refl _⟩,RowsEq.rfl'⟩,
⟨⟨Nat.le_refl _⟩,RowsEq.rfl'⟩,
⟨⟨Nat.le_refl _⟩,RowsEq.rfl'⟩,
(by (try dsimp only at *); grind),trivial⟩,
⟨(by (try dsimp only at *); ((have e := (bound_put (x := x1) h4 h6 h9); first | exact congrArg Prod.fst e | exact (congrArg Prod.fst e).symm | (show _ = (_ : Nat); rw [e]; done) | (rw [e]; exact Nat.le_refl _) | (rw [e]; exact RowsEq.rfl') | (rw [e]; rfl)))),
⟨rfl,
(by (try dsimp only at *); ((have e := (bound_put (x := x1) h4 h6 h9); first | exact congrArg Prod.fst e | exact (congrArg Prod.fst e).symm | (show _ = (_ : Nat); rw [e]; done) | (rw [e]; exact Nat.le_refl _) | (rw [e]; exact RowsEq.rfl') | (rw [e]; rfl))))⟩,trivial⟩,
⟨⟨(by (try dsimp only at *); ((have e := (bound_put (x := x1) h4 h6 h9); first | exact congrArg Prod.fst e | exact (congrArg Prod.fst e).symm | (show _ = (_ : Nat); rw [e]; done) | (rw [e]; exact Nat.le_refl _) | (rw [e]; exact RowsEq.rfl') | (rw [e]; rfl))))⟩,
(by (try dsimp only at *); ((have e := (bound_put (x := x1) h4 h6 h9); first | exact congrArg Prod.fst e | exact (congrArg Prod.fst e).symm | (show _ = (_ : Nat); rw [e]; done) | (rw [e]; exact Nat.le_refl _) | (rw [e]; exact RowsEq.rfl') | (rw [e]; rfl))))⟩,trivial⟩⟩⟩,
fun g11 => have h11 := of_decide_eq_true g11; ⟨⟨(by (try dsimp only at *); ((have e := (bound_out (x := x1) (by omega)); first | exact congrArg Prod.fst e | exact (congrArg Prod.fst e).symm | (show _ = (_ : Nat); rw [e]; done) | (rw [e]; exact Nat.le_refl _) | (rw [e]; exact RowsEq.rfl') | (rw [e]; rfl)))),
⟨trivial,rfl,
(by (try dsimp only at *); ((have e := (bound_out (x := x1) (by omega)); first | exact congrArg Prod.fst e | exact (congrArg Prod.fst e).symm | (show _ = (_ : Nat); rw [e]; done) | (rw [e]; exact Nat.le_refl _) | (rw [e]; exact RowsEq.rfl') | (rw [e]; rfl))))⟩,trivial⟩,
(by (try dsimp only at *); ((have e := (bound_out (x := x1) (by omega)); first | exact congrArg Prod.fst e | exact (congrArg Prod.fst e).symm | (show _ = (_ : Nat); rw [e]; done) | (rw [e]; exact Nat.le_refl _) | (rw [e]; exact RowsEq.rfl') | (rw [e]; rfl)))),trivial⟩⟩,
fun g12 => have h12 := of_decide_eq_true g12; ⟨⟨(by (try dsimp only at *); (exfalso; have := h2.n; omega)),
⟨trivial,rfl,
(by (try dsimp only at *); (exfalso; have := h2.n; omega))⟩,trivial⟩,
(by (try dsimp only at *); (exfalso; have := h2.n; omega)),trivial⟩⟩)
theorem vbound_good : Good Tryd.prog 17 vboundC /\ FnOk Tryd.prog 17 := good_of tok conVb (fn := Tryd.f17) rfl (by decide +kernel) (fun _ => rfl) vbound_keeps
end Go.Sym