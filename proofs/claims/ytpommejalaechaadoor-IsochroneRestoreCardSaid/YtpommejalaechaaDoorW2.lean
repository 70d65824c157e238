import Derived.Test.YtpommejalaechaaDoorW1
import Derived.Test.YtpommejalaechaaDoorXD
namespace Go.Sym
set_option linter.unusedVariables false
set_option linter.unusedSimpArgs false
open Go.Proofs
set_option maxRecDepth 100000
set_option maxHeartbeats 4000000
def rmA (x : FX) (a : Nat) : SV := .agg [.i .i64 x.g.n, .sl a 0 x.g.es.length, .sl (a + 1) 0 x.ts.length, .sl (a + 2) 0 x.src.length]
def rmH (x : FX) (a : Nat) : List (Nat × Blk) := [(a, .rows .bor kE x.g.es.length (encL encE x.g.es)), (a + 1, .rows .bor k1 x.ts.length (encL encI x.ts)), (a + 2, .rows .bor k1 x.src.length (encL encI x.src))]
def FX.d (x : FX) : List Int := distG x.g x.ts x.src true
def eallC : CT where
 X := FX
 pre := FXok
 args := fun x => [rmA x 100000]
 g0 := fun x => rmH x 100000
 res := fun x => .sl 1 0 x.g.n
 g1 := fun x => [(1, .rows .own k1 x.g.n (encL encI x.d))]
def cfgW2 : Cfg := ⟨T, [], [(30, .one qfromC)], noInv, 50, {}⟩
theorem conW2 : ConOk Tryd.prog cfgW2 := ConL.ok (.cons (ConL.one qfrom_good) .nil)
set_option maxRecDepth 100000 in
theorem eall_keeps : Keeps cfgW2 Tryd.f13 eallC noIv := Eq.mp (show ((∀ x1 : FX, ((FXok x1)-> (∃ x3 : FX, ((FXok x3)/\(((((x1.g.n : Int) = (x3.g.n : Int))/\((0=0 /\ x1.g.es.length = x3.g.es.length)/\True))/\((0=0 /\ x1.ts.length = x3.ts.length)/\((0=0 /\ x1.src.length = x3.src.length)/\True)))/\((((RLe x3.g.es.length x1.g.es.length)/\(RowsEq [.int .i64, .int .i64, .int .i64] x3.g.es.length (encL encE x1.g.es) (encL encE x3.g.es)))/\(((RLe x3.ts.length x1.ts.length)/\(RI x3.ts.length x1.ts x3.ts))/\(((RLe x3.src.length x1.src.length)/\(RI x3.src.length x1.src x3.src))/\True)))/\((0=0 /\ x3.g.n = x1.g.n)/\(((RLe x1.g.n x3.g.n)/\(RI x1.g.n (distG x3.g x3.ts x3.src true) (FX.d x1)))/\True))))))))) = (Keeps cfgW2 Tryd.f13 eallC noIv) by kernel_rfl) (fun x1 => fun h2 => ⟨(x1),
(by omega),
⟨⟨rfl,
⟨rfl,rfl⟩,trivial⟩,
⟨rfl,rfl⟩,
⟨rfl,rfl⟩,trivial⟩,
⟨⟨rl,rr⟩,
⟨rl,rr⟩,
⟨rl,rr⟩,trivial⟩,
⟨rfl,rfl⟩,
⟨rl,rr⟩,trivial⟩)
theorem eall_good : Good Tryd.prog 13 eallC /\ FnOk Tryd.prog 13 := good_of tok conW2 (fn := Tryd.f13) rfl (by decide +kernel) (fun _ => rfl) eall_keeps
structure FVx where
 x : FX
 v : Int
def putS (x : FX) (v : Int) : List Int := if v < 0 ∨ (x.g.n : Int) <= v then x.src else if v ∈ x.src then x.src else orR x.src [v]
def putE (x : FX) (v : Int) : Int := if v < 0 ∨ (x.g.n : Int) <= v then 1 else if v ∈ x.src then 5 else 0
theorem put_0 {x : FX} {v : Int} (h : v < 0 ∨ (x.g.n : Int) <= v) : putS x v = x.src /\ putE x v = 1 := ⟨if_pos h, if_pos h⟩
theorem put_1 {x : FX} {v : Int} (h1 : ¬ v < 0) (h2 : ¬ (x.g.n : Int) <= v) (h : v ∈ x.src) : putS x v = x.src /\ putE x v = 5 := by
 have q : ¬ (v < 0 ∨ (x.g.n : Int) <= v) := by omega
 unfold putS putE; rw [if_neg q, if_neg q, if_pos h, if_pos h]; exact ⟨rfl, rfl⟩
theorem put_2 {x : FX} {v : Int} (h1 : ¬ v < 0) (h2 : ¬ (x.g.n : Int) <= v) (h : ¬ v ∈ x.src) : putS x v = orR x.src [v] /\ putE x v = 0 := by
 have q : ¬ (v < 0 ∨ (x.g.n : Int) <= v) := by omega
 unfold putS putE; rw [if_neg q, if_neg q, if_neg h, if_neg h]; exact ⟨rfl, rfl⟩
def putRC : CT where
 X := FVx
 pre := fun x => x.x.src.length <= 1048576
 args := fun x => [rmA x.x 100000, .i .i64 x.v]
 g0 := fun x => rmH x.x 100000
 res := fun x => .tup [.agg [.i .i64 x.x.g.n, .sl 100000 0 x.x.g.es.length, .sl 100001 0 x.x.ts.length, .sl 1 0 (putS x.x x.v).length], .i .i64 (putE x.x x.v)]
 g1 := fun x => [(1, .rows .bor k1 (putS x.x x.v).length (encL encI (putS x.x x.v)))]
def cfgW3 : Cfg := ⟨T, [], [(55, .one qhasC), (56, .one orC), (57, .one leC)], noInv, 50, {}⟩
theorem conW3 : ConOk Tryd.prog cfgW3 := ConL.ok (.cons (ConL.one qhas_good) (.cons (ConL.one or_good) (.cons (ConL.one le_good) .nil)))
theorem lit1 {v : Int} : RowsEq k1 1 (litRows [[.i v]]) (encL encI [v]) := ⟨fun r hr => by rw [show r = 0 by omega]; exact ⟨rfl, trivial⟩⟩
set_option maxRecDepth 100000 in
theorem put_keeps : Keeps cfgW3 Tryd.f39 putRC noIv := Eq.mp (show ((∀ x1 : FVx, ((x1.x.src.length <= (1048576 : Nat))-> (((decide (x1.v < (0 : Int)) = false)-> (((decide ((x1.x.g.n : Int) <= x1.v) = true)-> (((((x1.x.g.n : Int) = (x1.x.g.n : Int))/\((0=0 /\ x1.x.g.es.length = x1.x.g.es.length)/\((0=0 /\ x1.x.ts.length = x1.x.ts.length)/\((0=0/\(x1.x.src.length = (putS x1.x x1.v).length))/\True))))/\(((1 : Int) = putE x1.x x1.v)/\True))/\(((RLe (putS x1.x x1.v).length x1.x.src.length)/\(RowsEq [.int .i64] (putS x1.x x1.v).length (encL encI x1.x.src) (encL encI (putS x1.x x1.v))))/\True)))/\((decide ((x1.x.g.n : Int) <= x1.v) = false)-> (∃ x6 : LIX, ((x6.l.length <= (1073741824 : Nat))/\(((0=0 /\ x1.x.src.length = x6.l.length)/\(x1.v = x6.n/\True))/\((((RLe x6.l.length x1.x.src.length)/\(RI x6.l.length x1.x.src x6.l))/\True)/\(((decide (x6.n ∈ x6.l) = true)-> (((((x1.x.g.n : Int) = (x1.x.g.n : Int))/\((0=0 /\ x1.x.g.es.length = x1.x.g.es.length)/\((0=0 /\ x1.x.ts.length = x1.x.ts.length)/\((0=0/\(x1.x.src.length = (putS x1.x x1.v).length))/\True))))/\(((5 : Int) = putE x1.x x1.v)/\True))/\(((RLe (putS x1.x x1.v).length x1.x.src.length)/\(RowsEq [.int .i64] (putS x1.x x1.v).length (encL encI x1.x.src) (encL encI (putS x1.x x1.v))))/\True)))/\((decide (x6.n ∈ x6.l) = false)-> (((True/\True)/\True)/\(∃ x9 : OX, (((x9.a.length <= (1048576 : Nat))/\(x9.b.length <= (1048576 : Nat)))/\(((0=0 /\ x1.x.src.length = x9.a.length)/\((0=0/\((1 : Nat) = x9.b.length))/\True))/\((((RLe x9.a.length x1.x.src.length)/\(RI x9.a.length x1.x.src x9.a))/\(((RLe x9.b.length 1)/\(RowsEq [.int .i64] x9.b.length (litRows ((D.i x1.v :: @List.nil D) :: @List.nil (List D))) (encL encI x9.b)))/\True))/\(((((x1.x.g.n : Int) = (x1.x.g.n : Int))/\((0=0 /\ x1.x.g.es.length = x1.x.g.es.length)/\((0=0 /\ x1.x.ts.length = x1.x.ts.length)/\((0=0/\((orR x9.a x9.b).length = (putS x1.x x1.v).length))/\True))))/\(((0 : Int) = putE x1.x x1.v)/\True))/\(((RLe (putS x1.x x1.v).length (orR x9.a x9.b).length)/\(RowsEq [.int .i64] (putS x1.x x1.v).length (encL encI (orR x9.a x9.b)) (encL encI (putS x1.x x1.v))))/\True))))))))))))))))/\((decide (x1.v < (0 : Int)) = true)-> (((((x1.x.g.n : Int) = (x1.x.g.n : Int))/\((0=0 /\ x1.x.g.es.length = x1.x.g.es.length)/\((0=0 /\ x1.x.ts.length = x1.x.ts.length)/\((0=0/\(x1.x.src.length = (putS x1.x x1.v).length))/\True))))/\(((1 : Int) = putE x1.x x1.v)/\True))/\(((RLe (putS x1.x x1.v).length x1.x.src.length)/\(RowsEq [.int .i64] (putS x1.x x1.v).length (encL encI x1.x.src) (encL encI (putS x1.x x1.v))))/\True))))))) = (Keeps cfgW3 Tryd.f39 putRC noIv) by kernel_rfl) (fun x1 => fun h2 => ⟨fun g3 => have h3 := dF g3; ⟨fun g4 => have h4 := dT g4; ⟨⟨⟨rfl,
⟨rfl,rfl⟩,
⟨rfl,rfl⟩,
⟨rfl,
(by rw [(put_0 (x := x1.x) (v := x1.v) (by omega)).1])⟩,trivial⟩,
((put_0 (x := x1.x) (v := x1.v) (by omega)).2.symm),trivial⟩,
⟨⟨(by rw [(put_0 (x := x1.x) (v := x1.v) (by omega)).1]; exact Nat.le_refl _)⟩,
(by rw [(put_0 (x := x1.x) (v := x1.v) (by omega)).1]; exact rr)⟩,trivial⟩,
fun g5 => have h5 := dF g5; ⟨({ l := FX.src (FVx.x x1), n := FVx.v x1 : LIX }),
(by (try dsimp only at *); omega),
⟨⟨rfl,rfl⟩,rfl,trivial⟩,
⟨⟨rl,rr⟩,trivial⟩,
fun g7 => have h7 := dT g7; ⟨⟨⟨rfl,
⟨rfl,rfl⟩,
⟨rfl,rfl⟩,
⟨rfl,
(by rw [(put_1 (x := x1.x) (v := x1.v) ‹_› ‹_› ‹_›).1])⟩,trivial⟩,
((put_1 (x := x1.x) (v := x1.v) ‹_› ‹_› ‹_›).2.symm),trivial⟩,
⟨⟨(by rw [(put_1 (x := x1.x) (v := x1.v) ‹_› ‹_› ‹_›).1]; exact Nat.le_refl _)⟩,
(by rw [(put_1 (x := x1.x) (v := x1.v) ‹_› ‹_› ‹_›).1]; exact rr)⟩,trivial⟩,
fun g8 => have h8 := dF g8; ⟨⟨⟨trivial,trivial⟩,trivial⟩,
({ a := FX.src (FVx.x x1), b := FVx.v x1 :: @List.nil Int : OX }),
⟨(by omega),
(by grind)⟩,
⟨⟨rfl,rfl⟩,
⟨rfl,
(by grind)⟩,trivial⟩,
⟨⟨rl,rr⟩,
⟨⟨(by grind)⟩,lit1⟩,trivial⟩,
⟨⟨rfl,
⟨rfl,rfl⟩,
⟨rfl,rfl⟩,
⟨rfl,
(by rw [(put_2 (x := x1.x) (v := x1.v) ‹_› ‹_› ‹_›).1])⟩,trivial⟩,
((put_2 (x := x1.x) (v := x1.v) ‹_› ‹_› ‹_›).2.symm),trivial⟩,
⟨⟨(by rw [(put_2 (x := x1.x) (v := x1.v) ‹_› ‹_› ‹_›).1]; exact Nat.le_refl _)⟩,
(by rw [(put_2 (x := x1.x) (v := x1.v) ‹_› ‹_› ‹_›).1]; exact rr)⟩,trivial⟩⟩⟩,
fun g10 => have h10 := dT g10; ⟨⟨⟨rfl,
⟨rfl,rfl⟩,
⟨rfl,rfl⟩,
⟨rfl,
(by rw [(put_0 (x := x1.x) (v := x1.v) (by omega)).1])⟩,trivial⟩,
((put_0 (x := x1.x) (v := x1.v) (by omega)).2.symm),trivial⟩,
⟨⟨(by rw [(put_0 (x := x1.x) (v := x1.v) (by omega)).1]; exact Nat.le_refl _)⟩,
(by rw [(put_0 (x := x1.x) (v := x1.v) (by omega)).1]; exact rr)⟩,trivial⟩⟩)
theorem put_good : Good Tryd.prog 39 putRC /\ FnOk Tryd.prog 39 := good_of tok conW3 (fn := Tryd.f39) rfl (by decide +kernel) (fun _ => rfl) put_keeps
def dropC : CT where
 X := FVx
 pre := fun x => x.x.src.length <= 1048576
 args := fun x => [rmA x.x 100000, .i .i64 x.v]
 g0 := fun x => rmH x.x 100000
 res := fun x => .tup [.agg [.i .i64 x.x.g.n, .sl 100000 0 x.x.g.es.length, .sl 100001 0 x.x.ts.length, .sl 1 0 (leL x.x.src [x.v]).length], .b (decide (x.v ∈ x.x.src))]
 g1 := fun x => [(1, .rows .bor k1 (leL x.x.src [x.v]).length (encL encI (leL x.x.src [x.v])))]
set_option maxRecDepth 100000 in
theorem drop_keeps : Keeps cfgW3 Tryd.f40 dropC noIv := Eq.mp (show ((∀ x1 : FVx, ((x1.x.src.length <= (1048576 : Nat))-> (∃ x3 : LIX, ((x3.l.length <= (1073741824 : Nat))/\(((0=0 /\ x1.x.src.length = x3.l.length)/\(x1.v = x3.n/\True))/\((((RLe x3.l.length x1.x.src.length)/\(RI x3.l.length x1.x.src x3.l))/\True)/\(((True/\True)/\True)/\(∃ x4 : OX, (((x4.a.length <= (1048576 : Nat))/\(x4.b.length <= (1048576 : Nat)))/\(((0=0 /\ x1.x.src.length = x4.a.length)/\((0=0/\((1 : Nat) = x4.b.length))/\True))/\((((RLe x4.a.length x1.x.src.length)/\(RI x4.a.length x1.x.src x4.a))/\(((RLe x4.b.length 1)/\(RowsEq [.int .i64] x4.b.length (litRows ((D.i x1.v :: @List.nil D) :: @List.nil (List D))) (encL encI x4.b)))/\True))/\(((((x1.x.g.n : Int) = (x1.x.g.n : Int))/\((0=0 /\ x1.x.g.es.length = x1.x.g.es.length)/\((0=0 /\ x1.x.ts.length = x1.x.ts.length)/\((0=0/\((leL x4.a x4.b).length = (leL x1.x.src (x1.v :: @List.nil Int)).length))/\True))))/\((decide (x3.n ∈ x3.l) = decide (x1.v ∈ x1.x.src))/\True))/\(((RLe (leL x1.x.src (x1.v :: @List.nil Int)).length (leL x4.a x4.b).length)/\(RowsEq [.int .i64] (leL x1.x.src (x1.v :: @List.nil Int)).length (encL encI (leL x4.a x4.b)) (encL encI (leL x1.x.src (x1.v :: @List.nil Int)))))/\True)))))))))))))) = (Keeps cfgW3 Tryd.f40 dropC noIv) by kernel_rfl) (fun x1 => fun h2 => ⟨({ l := FX.src (FVx.x x1), n := FVx.v x1 : LIX }),
(by (try dsimp only at *); omega),
⟨⟨rfl,rfl⟩,rfl,trivial⟩,
⟨⟨rl,rr⟩,trivial⟩,
⟨⟨trivial,trivial⟩,trivial⟩,
({ a := FX.src (FVx.x x1), b := FVx.v x1 :: @List.nil Int : OX }),
⟨(by omega),
(by grind)⟩,
⟨⟨rfl,rfl⟩,
⟨rfl,
(by grind)⟩,trivial⟩,
⟨⟨rl,rr⟩,
⟨⟨(by grind)⟩,lit1⟩,trivial⟩,
⟨⟨rfl,
⟨rfl,rfl⟩,
⟨rfl,rfl⟩,
⟨rfl,rfl⟩,trivial⟩,rfl,trivial⟩,
⟨rl,rr⟩,trivial⟩)
theorem drop_good : Good Tryd.prog 40 dropC /\ FnOk Tryd.prog 40 := good_of tok conW3 (fn := Tryd.f40) rfl (by decide +kernel) (fun _ => rfl) drop_keeps
def ttK (ts : List Int) (k : Nat) : List Int := (List.range k).map (tt ts)
structure ENx where
 g : Gr
 ts : List Int
def enewC : CT where
 X := ENx
 pre := fun x => x.g.es.length <= 1048576
 args := fun x => [.agg [.i .i64 x.g.n, .sl 100000 0 x.g.es.length], .sl 100001 0 x.ts.length]
 g0 := fun x => [(100000, .rows .bor kE x.g.es.length (encL encE x.g.es)), (100001, .rows .bor k1 x.ts.length (encL encI x.ts))]
 res := fun x => .agg [.i .i64 x.g.n, .sl 100000 0 x.g.es.length, .sl 1 0 x.g.es.length, .ns]
 g1 := fun x => [(1, .rows .own k1 x.g.es.length (encL encI (ttL x.ts x.g.es.length)))]
def enewI (x : ENx) (id : Nat) : Option Inv := match id with
 | 0 => some { X := Nat, ok := fun k => k <= x.g.es.length, fr := fun k => [(12, .i .i64 k)], hp := fun k => [(5, .one .own [.i .i64 x.g.n, .sl 100000 0 x.g.es.length, .sl 61 0 k, .ns]), (61, .rows .own k1 k (encL encI (ttK x.ts k)))], me := fun k => x.g.es.length - k }
 | _ => none
def cfgW4 : Cfg := ⟨T, [], [(38, .one travelC)], noInv, 50, {}⟩
theorem conW4 : ConOk Tryd.prog cfgW4 := ConL.ok (.cons (ConL.one time_good) .nil)
theorem ttK_push {ts : List Int} {k : Nat} : RowsEq k1 (k + 1) (appRows k (encL encI (ttK ts k)) 0 (litRows [[.i (tt ts k)]])) (encL encI (ttK ts (k + 1))) := by
 have e : ttK ts (k + 1) = ttK ts k ++ [tt ts k] := by unfold ttK; rw [List.range_succ, List.map_append]; rfl
 rw [e]; exact rowsEq_push (by simp [ttK]) (by simp [ttK]) ⟨rfl, trivial⟩
set_option maxRecDepth 100000 in
theorem enew_keeps : Keeps cfgW4 Tryd.f25 enewC enewI := Eq.mp (show ((∀ x1 : ENx, ((x1.g.es.length <= (1048576 : Nat))-> (∃ x3 : Nat, (((x3 <= x1.g.es.length)/\(((0 = (x3 : Int))/\(((x1.g.es.length : Int) = (x1.g.es.length : Int))/\((0=0 /\ x1.g.es.length = x1.g.es.length)/\((0=0/\((1 : Nat) = (1 : Nat)))/\((0=0 /\ 0=0)/\((((x1.g.n : Int) = (x1.g.n : Int))/\((0=0 /\ x1.g.es.length = x1.g.es.length)/\(True/\(True/\True))))/\((((x1.g.n : Int) = (x1.g.n : Int))/\((0=0 /\ x1.g.es.length = x1.g.es.length)/\True))/\((0=0 /\ 0=0)/\((0=0 /\ 0=0)/\((((x1.g.n : Int) = (x1.g.n : Int))/\((0=0 /\ x1.g.es.length = x1.g.es.length)/\True))/\((0=0 /\ x1.ts.length = x1.ts.length)/\True)))))))))))/\((((x1.g.n : Int) = (x1.g.n : Int))/\((0=0 /\ x1.g.es.length = x1.g.es.length)/\((True/\(0=0/\(x3 = (0 : Nat))))/\(True/\True))))/\((x3 = (0 : Nat))/\((((0 : Int) = 0)/\(True/\(True/\(True/\True))))/\((((x1.g.n : Int) = (x1.g.n : Int))/\((0=0 /\ x1.g.es.length = x1.g.es.length)/\True))/\(((RLe x1.g.es.length x1.g.es.length)/\(RowsEq [.int .i64, .int .i64, .int .i64] x1.g.es.length (encL encE x1.g.es) (encL encE x1.g.es)))/\(((RLe x1.ts.length x1.ts.length)/\(RI x1.ts.length x1.ts x1.ts))/\True))))))))/\(∀ x4 : Nat, ((x4 <= x1.g.es.length)-> (((decide ((x4 : Int) < (x1.g.es.length : Int)) = true)-> (∃ x7 : TX, ((x7.i <= (1073741824 : Nat))/\(((0=0 /\ x1.ts.length = x7.ts.length)/\(((x4 : Int) = (x7.i : Int))/\True))/\((((RLe x7.ts.length x1.ts.length)/\(RI x7.ts.length x1.ts x7.ts))/\True)/\(((True/\True)/\True)/\((0=0/\((x4 <= x4)/\(((1 : Nat) <= (1 : Nat))/\(x4 + (1 : Nat) <= (1073741824 : Nat)))))/\((((-9223372036854775808 : Int) <= (x4 : Int) + 1)/\((x4 : Int) + 1 <= (9223372036854775807 : Int)))/\(∃ x8 : Nat, ((x1.g.es.length - x8 < x1.g.es.length - x4)/\((x8 <= x1.g.es.length)/\((((x4 : Int) + 1 = (x8 : Int))/\(((x1.g.es.length : Int) = (x1.g.es.length : Int))/\((0=0 /\ x1.g.es.length = x1.g.es.length)/\((0=0/\((1 : Nat) = (1 : Nat)))/\((0=0 /\ 0=0)/\((((x1.g.n : Int) = (x1.g.n : Int))/\((0=0 /\ x1.g.es.length = x1.g.es.length)/\(True/\(True/\True))))/\((((x1.g.n : Int) = (x1.g.n : Int))/\((0=0 /\ x1.g.es.length = x1.g.es.length)/\True))/\((0=0 /\ 0=0)/\((0=0 /\ 0=0)/\((((x1.g.n : Int) = (x1.g.n : Int))/\((0=0 /\ x1.g.es.length = x1.g.es.length)/\True))/\((0=0 /\ x1.ts.length = x1.ts.length)/\True)))))))))))/\((((x1.g.n : Int) = (x1.g.n : Int))/\((0=0 /\ x1.g.es.length = x1.g.es.length)/\((0=0/\(x4 + (1 : Nat) = x8))/\(True/\True))))/\(((RLe x8 (x4 + (1 : Nat)))/\(RowsEq [.int .i64] x8 (appRows x4 (encL encI (ttK x1.ts x4)) 0 (litRows ((D.i (tt x7.ts x7.i) :: @List.nil D) :: @List.nil (List D)))) (encL encI (ttK x1.ts x8))))/\((((0 : Int) = 0)/\(True/\(True/\(True/\True))))/\((((x1.g.n : Int) = (x1.g.n : Int))/\((0=0 /\ x1.g.es.length = x1.g.es.length)/\True))/\(((RLe x1.g.es.length x1.g.es.length)/\(RowsEq [.int .i64, .int .i64, .int .i64] x1.g.es.length (encL encE x1.g.es) (encL encE x1.g.es)))/\(((RLe x1.ts.length x1.ts.length)/\(RI x1.ts.length x1.ts x1.ts))/\True))))))))))))))))))/\((decide ((x4 : Int) < (x1.g.es.length : Int)) = false)-> ((((x1.g.n : Int) = (x1.g.n : Int))/\((0=0 /\ x1.g.es.length = x1.g.es.length)/\((0=0 /\ x4 = x1.g.es.length)/\(True/\True))))/\(((RLe x1.g.es.length x4)/\(RI x1.g.es.length (ttK x1.ts x4) (ttL x1.ts x1.g.es.length)))/\True))))))))))) = (Keeps cfgW4 Tryd.f25 enewC enewI) by kernel_rfl) (fun x1 => fun h2 => ⟨((0 : Nat)),
⟨(by omega),
⟨(by omega),rfl,
⟨rfl,rfl⟩,
⟨rfl,rfl⟩,
⟨rfl,rfl⟩,
⟨rfl,
⟨rfl,rfl⟩,trivial,trivial,trivial⟩,
⟨rfl,
⟨rfl,rfl⟩,trivial⟩,
⟨rfl,rfl⟩,
⟨rfl,rfl⟩,
⟨rfl,
⟨rfl,rfl⟩,trivial⟩,
⟨rfl,rfl⟩,trivial⟩,
⟨rfl,
⟨rfl,rfl⟩,
⟨trivial,rfl,rfl⟩,trivial,trivial⟩,rfl,
⟨rfl,trivial,trivial,trivial,trivial⟩,
⟨rfl,
⟨rfl,rfl⟩,trivial⟩,
⟨rl,rr⟩,
⟨rl,rr⟩,trivial⟩,
fun x4 => fun h5 => ⟨fun g6 => have h6 := dT g6; ⟨({ ts := ENx.ts x1, i := x4 : TX }),
(by (try dsimp only at *); omega),
⟨⟨rfl,rfl⟩,rfl,trivial⟩,
⟨⟨rl,rr⟩,trivial⟩,
⟨⟨trivial,trivial⟩,trivial⟩,
⟨rfl,
(by omega),
(by omega),
(by omega)⟩,
⟨(by omega),
(by omega)⟩,
(x4 + (1 : Nat)),
(by omega),
(by omega),
⟨(by omega),rfl,
⟨rfl,rfl⟩,
⟨rfl,rfl⟩,
⟨rfl,rfl⟩,
⟨rfl,
⟨rfl,rfl⟩,trivial,trivial,trivial⟩,
⟨rfl,
⟨rfl,rfl⟩,trivial⟩,
⟨rfl,rfl⟩,
⟨rfl,rfl⟩,
⟨rfl,
⟨rfl,rfl⟩,trivial⟩,
⟨rfl,rfl⟩,trivial⟩,
⟨rfl,
⟨rfl,rfl⟩,
⟨rfl,rfl⟩,trivial,trivial⟩,
⟨rl,ttK_push⟩,
⟨rfl,trivial,trivial,trivial,trivial⟩,
⟨rfl,
⟨rfl,rfl⟩,trivial⟩,
⟨rl,rr⟩,
⟨rl,rr⟩,trivial⟩,
fun g9 => have h9 := dF g9; ⟨⟨rfl,
⟨rfl,rfl⟩,
⟨rfl,
(by omega)⟩,trivial,trivial⟩,
⟨⟨(by omega)⟩,
(by rw [show x4 = x1.g.es.length by omega]; exact rr)⟩,trivial⟩⟩⟩)
theorem enew_good : Good Tryd.prog 25 enewC /\ FnOk Tryd.prog 25 := good_of tok conW4 (fn := Tryd.f25) rfl (by decide +kernel) (fun _ => rfl) enew_keeps
end Go.Sym