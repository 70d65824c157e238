import Derived.Test.YtplpefihhhcbbaaDoorK1
import Derived.Test.YtplpefihhhcbbaaDoorXD
namespace Go.Sym
set_option linter.unusedVariables false
set_option linter.unusedSimpArgs false
open Go.Proofs
set_option maxHeartbeats 4000000
structure YX where
 g : Gr
 ts : List Int
 us : List Un
 ws : List Nat
 t : Int
structure YXok (x : YX) : Prop where
 u : UXok ⟨x.g, x.ts, x.us, []⟩
 w : WOk x.ws
theorem YXok.g {x : YX} (h : YXok x) : GWok ⟨x.g, x.ws⟩ := ⟨h.u.g.n, h.w⟩
def worstW (g : Gr) (ts : List Int) (us : List Un) (ws : List Nat) : Int × Int := worstF (distG g ts (freeL us) true) (nodesW g.n ws)
def wwaitC : CT where
 X := YX
 pre := YXok
 args := fun x => [.p 100000 0 0, .sl 100001 0 x.ts.length, .sl 100002 0 x.us.length, setV x.ws 100003]
 g0 := fun x => graphH x.g 100000 ++ [(100001, .rows .bor k1 x.ts.length (encL encI x.ts)), (100002, .rows .bor kU x.us.length (encL encU x.us))] ++ setH x.ws .bor 100003
 res := fun x => .tup [.i .i64 (worstW x.g x.ts x.us x.ws).1, .i .i64 (worstW x.g x.ts x.us x.ws).2]
 g1 := fun x => []
def wwaitI (x : YX) (id : Nat) : Option Inv := match id with
 | 0 => some { X := Nat, ok := fun k => k <= (nodesW x.g.n x.ws).length, fr := fun k => [(23, .i .i64 k), (11, .i .i64 (worstAt (distG x.g x.ts (freeL x.us) true) (nodesW x.g.n x.ws) k).1), (12, .i .i64 (worstAt (distG x.g x.ts (freeL x.us) true) (nodesW x.g.n x.ws) k).2)],
               hp := fun _ => [], me := fun k => (nodesW x.g.n x.ws).length - k }
 | _ => none
def cfgK2 : Cfg := ⟨T, [], [(32, .one respC), (33, .one nodesOfC)], noInv, 60, {}⟩
theorem conK2 : ConOk Tryd.prog cfgK2 := ConL.ok (.cons (ConL.one resp_good) (.cons (ConL.one nodesOf_good) .nil))
set_option maxRecDepth 100000 in
theorem wwait_keeps : Keeps cfgK2 Tryd.f13 wwaitC wwaitI := Eq.mp (show ((∀ x1 : YX, ((YXok x1)-> (∃ x3 : UX, ((UXok x3)/\(((0=0 /\ 0=0)/\((0=0 /\ x1.ts.length = x3.ts.length)/\((0=0 /\ x1.us.length = x3.us.length)/\True)))/\(((RLe 1 1/\(RowsEq [.sl [.int .i64, .int .i64, .int .i64], .sl [.sl [.int .i64]], .sl [.sl [.int .i64]]] 1 (encG x1.g) (encG x3.g)))/\(((RLe x3.ts.length x1.ts.length)/\(RowsEq [.int .i64] x3.ts.length (encL encI x1.ts) (encL encI x3.ts)))/\(((RLe x3.us.length x1.us.length)/\(RowsEq [.int .i64, .int .i64, .int .i64, .int .i64, .int .i64, .int .i64, .int .i64, .int .i64, .int .i64, .int .i64] x3.us.length (encL encU x1.us) (encL encU x3.us)))/\True)))/\(∃ x4 : GWX, ((GWok x4)/\(((0=0 /\ 0=0)/\(((szW x1.ws = szW x4.ws)/\True)/\True))/\(((RLe 1 1/\(RowsEq [.sl [.int .i64, .int .i64, .int .i64], .sl [.sl [.int .i64]], .sl [.sl [.int .i64]]] 1 (encG x1.g) (encG x4.g)))/\(((RLe (szW x4.ws) (szW x1.ws))/\(RowsEq [.int .u64] (szW x4.ws) (encL encW x1.ws) (encL encW x4.ws)))/\True))/\(∃ x5 : Nat, (((x5 <= (nodesW x1.g.n x1.ws).length)/\(((0 = (x5 : Int))/\(((0 : Int) = Prod.fst (worstAt (distG x1.g x1.ts (freeL x1.us) true) (nodesW x1.g.n x1.ws) x5))/\(((-1 : Int) = Prod.snd (worstAt (distG x1.g x1.ts (freeL x1.us) true) (nodesW x1.g.n x1.ws) x5))/\(((↑(nodesW x4.g.n x4.ws).length : Int) = (↑(nodesW x4.g.n x4.ws).length : Int))/\((0=0/\((nodesW x4.g.n x4.ws).length = (nodesW x4.g.n x4.ws).length))/\(((szW x1.ws = szW x1.ws)/\True)/\((0=0 /\ 0=0)/\((0=0 /\ x3.g.n = x3.g.n)/\((0=0 /\ x3.g.n = x3.g.n)/\((0=0 /\ x1.us.length = x1.us.length)/\((0=0 /\ x1.ts.length = x1.ts.length)/\((0=0 /\ 0=0)/\(((0 : Int) = 0)/\(((0 : Int) = 0)/\((0=0 /\ 0=0)/\((0=0 /\ 0=0)/\((0=0 /\ x1.ts.length = x1.ts.length)/\((0=0 /\ x1.us.length = x1.us.length)/\(((szW x1.ws = szW x1.ws)/\True)/\True)))))))))))))))))))/\(((RLe (nodesW x4.g.n x4.ws).length (nodesW x4.g.n x4.ws).length)/\(RowsEq [.int .i64] (nodesW x4.g.n x4.ws).length (encL encI (nodesW x4.g.n x4.ws)) (encL encI (nodesW x4.g.n x4.ws))))/\(((RLe x3.g.n x3.g.n)/\(RowsEq [.int .i64] x3.g.n (encL encI (distG x3.g x3.ts (freeL x3.us) true)) (encL encI (distG x3.g x3.ts (freeL x3.us) true))))/\(((szW x1.ws = szW x1.ws)/\True)/\((RLe 1 1/\(RowsEq [.sl [.int .i64, .int .i64, .int .i64], .sl [.sl [.int .i64]], .sl [.sl [.int .i64]]] 1 (encG x1.g) (encG x1.g)))/\(((RLe x1.ts.length x1.ts.length)/\(RowsEq [.int .i64] x1.ts.length (encL encI x1.ts) (encL encI x1.ts)))/\(((RLe x1.us.length x1.us.length)/\(RowsEq [.int .i64, .int .i64, .int .i64, .int .i64, .int .i64, .int .i64, .int .i64, .int .i64, .int .i64, .int .i64] x1.us.length (encL encU x1.us) (encL encU x1.us)))/\(((RLe (szW x1.ws) (szW x1.ws))/\(RowsEq [.int .u64] (szW x1.ws) (encL encW x1.ws) (encL encW x1.ws)))/\True)))))))))/\(∀ x6 : Nat, ((x6 <= (nodesW x1.g.n x1.ws).length)-> (((decide ((x6 : Int) < (↑(nodesW x4.g.n x4.ws).length : Int)) = true)-> ((((0 : Int) <= (x6 : Int))/\((x6 : Int) < (↑(nodesW x4.g.n x4.ws).length : Int)))/\((0 + Int.toNat (x6 : Int) < (nodesW x4.g.n x4.ws).length)/\(((decide (Prod.snd (worstAt (distG x1.g x1.ts (freeL x1.us) true) (nodesW x1.g.n x1.ws) x6) < (0 : Int)) = false)-> ((((0 : Int) <= (nodesW x4.g.n x4.ws).getD (0 + Int.toNat (x6 : Int)) default)/\((nodesW x4.g.n x4.ws).getD (0 + Int.toNat (x6 : Int)) default < (x3.g.n : Int)))/\((0 + Int.toNat ((nodesW x4.g.n x4.ws).getD (0 + Int.toNat (x6 : Int)) default) < x3.g.n)/\(((decide (Prod.fst (worstAt (distG x1.g x1.ts (freeL x1.us) true) (nodesW x1.g.n x1.ws) x6) < (distG x3.g x3.ts (freeL x3.us) true).getD (0 + Int.toNat ((nodesW x4.g.n x4.ws).getD (0 + Int.toNat (x6 : Int)) default)) default) = true)-> ((((0 : Int) <= (nodesW x4.g.n x4.ws).getD (0 + Int.toNat (x6 : Int)) default)/\((nodesW x4.g.n x4.ws).getD (0 + Int.toNat (x6 : Int)) default < (x3.g.n : Int)))/\((0 + Int.toNat ((nodesW x4.g.n x4.ws).getD (0 + Int.toNat (x6 : Int)) default) < x3.g.n)/\((((-9223372036854775808 : Int) <= (x6 : Int) + 1)/\((x6 : Int) + 1 <= (9223372036854775807 : Int)))/\(∃ x11 : Nat, (((nodesW x1.g.n x1.ws).length - x11 < (nodesW x1.g.n x1.ws).length - x6)/\((x11 <= (nodesW x1.g.n x1.ws).length)/\((((x6 : Int) + 1 = (x11 : Int))/\(((distG x3.g x3.ts (freeL x3.us) true).getD (0 + Int.toNat ((nodesW x4.g.n x4.ws).getD (0 + Int.toNat (x6 : Int)) default)) default = Prod.fst (worstAt (distG x1.g x1.ts (freeL x1.us) true) (nodesW x1.g.n x1.ws) x11))/\(((nodesW x4.g.n x4.ws).getD (0 + Int.toNat (x6 : Int)) default = Prod.snd (worstAt (distG x1.g x1.ts (freeL x1.us) true) (nodesW x1.g.n x1.ws) x11))/\(((↑(nodesW x4.g.n x4.ws).length : Int) = (↑(nodesW x4.g.n x4.ws).length : Int))/\((0=0/\((nodesW x4.g.n x4.ws).length = (nodesW x4.g.n x4.ws).length))/\(((szW x1.ws = szW x1.ws)/\True)/\((0=0 /\ 0=0)/\((0=0 /\ x3.g.n = x3.g.n)/\((0=0 /\ x3.g.n = x3.g.n)/\((0=0 /\ x1.us.length = x1.us.length)/\((0=0 /\ x1.ts.length = x1.ts.length)/\((0=0 /\ 0=0)/\(((0 : Int) = 0)/\(((0 : Int) = 0)/\((0=0 /\ 0=0)/\((0=0 /\ 0=0)/\((0=0 /\ x1.ts.length = x1.ts.length)/\((0=0 /\ x1.us.length = x1.us.length)/\(((szW x1.ws = szW x1.ws)/\True)/\True)))))))))))))))))))/\(((RLe (nodesW x4.g.n x4.ws).length (nodesW x4.g.n x4.ws).length)/\(RowsEq [.int .i64] (nodesW x4.g.n x4.ws).length (encL encI (nodesW x4.g.n x4.ws)) (encL encI (nodesW x4.g.n x4.ws))))/\(((RLe x3.g.n x3.g.n)/\(RowsEq [.int .i64] x3.g.n (encL encI (distG x3.g x3.ts (freeL x3.us) true)) (encL encI (distG x3.g x3.ts (freeL x3.us) true))))/\(((szW x1.ws = szW x1.ws)/\True)/\((RLe 1 1/\(RowsEq [.sl [.int .i64, .int .i64, .int .i64], .sl [.sl [.int .i64]], .sl [.sl [.int .i64]]] 1 (encG x1.g) (encG x1.g)))/\(((RLe x1.ts.length x1.ts.length)/\(RowsEq [.int .i64] x1.ts.length (encL encI x1.ts) (encL encI x1.ts)))/\(((RLe x1.us.length x1.us.length)/\(RowsEq [.int .i64, .int .i64, .int .i64, .int .i64, .int .i64, .int .i64, .int .i64, .int .i64, .int .i64, .int .i64] x1.us.length (encL encU x1.us) (encL encU x1.us)))/\(((RLe (szW x1.ws) (szW x1.ws))/\(RowsEq [.int .u64] (szW x1.ws) (encL encW x1.ws) (encL encW x1.ws)))/\True)))))))))))))))/\((decide (Prod.fst (worstAt (distG x1.g x1.ts (freeL x1.us) true) (nodesW x1.g.n x1.ws) x6) < (distG x3.g x3.ts (freeL x3.us) true).getD (0 + Int.toNat ((nodesW x4.g.n x4.ws).getD (0 + Int.toNat (x6 : Int)) default)) default) = false)-> ((((-9223372036854775808 : Int) <= (x6 : Int) + 1)/\((x6 : Int) + 1 <= (9223372036854775807 : Int)))/\(∃ x13 : Nat, (((nodesW x1.g.n x1.ws).length - x13 < (nodesW x1.g.n x1.ws).length - x6)/\((x13 <= (nodesW x1.g.n x1.ws).length)/\((((x6 : Int) + 1 = (x13 : Int))/\((Prod.fst (worstAt (distG x1.g x1.ts (freeL x1.us) true) (nodesW x1.g.n x1.ws) x6) = Prod.fst (worstAt (distG x1.g x1.ts (freeL x1.us) true) (nodesW x1.g.n x1.ws) x13))/\((Prod.snd (worstAt (distG x1.g x1.ts (freeL x1.us) true) (nodesW x1.g.n x1.ws) x6) = Prod.snd (worstAt (distG x1.g x1.ts (freeL x1.us) true) (nodesW x1.g.n x1.ws) x13))/\(((↑(nodesW x4.g.n x4.ws).length : Int) = (↑(nodesW x4.g.n x4.ws).length : Int))/\((0=0/\((nodesW x4.g.n x4.ws).length = (nodesW x4.g.n x4.ws).length))/\(((szW x1.ws = szW x1.ws)/\True)/\((0=0 /\ 0=0)/\((0=0 /\ x3.g.n = x3.g.n)/\((0=0 /\ x3.g.n = x3.g.n)/\((0=0 /\ x1.us.length = x1.us.length)/\((0=0 /\ x1.ts.length = x1.ts.length)/\((0=0 /\ 0=0)/\(((0 : Int) = 0)/\(((0 : Int) = 0)/\((0=0 /\ 0=0)/\((0=0 /\ 0=0)/\((0=0 /\ x1.ts.length = x1.ts.length)/\((0=0 /\ x1.us.length = x1.us.length)/\(((szW x1.ws = szW x1.ws)/\True)/\True)))))))))))))))))))/\(((RLe (nodesW x4.g.n x4.ws).length (nodesW x4.g.n x4.ws).length)/\(RowsEq [.int .i64] (nodesW x4.g.n x4.ws).length (encL encI (nodesW x4.g.n x4.ws)) (encL encI (nodesW x4.g.n x4.ws))))/\(((RLe x3.g.n x3.g.n)/\(RowsEq [.int .i64] x3.g.n (encL encI (distG x3.g x3.ts (freeL x3.us) true)) (encL encI (distG x3.g x3.ts (freeL x3.us) true))))/\(((szW x1.ws = szW x1.ws)/\True)/\((RLe 1 1/\(RowsEq [.sl [.int .i64, .int .i64, .int .i64], .sl [.sl [.int .i64]], .sl [.sl [.int .i64]]] 1 (encG x1.g) (encG x1.g)))/\(((RLe x1.ts.length x1.ts.length)/\(RowsEq [.int .i64] x1.ts.length (encL encI x1.ts) (encL encI x1.ts)))/\(((RLe x1.us.length x1.us.length)/\(RowsEq [.int .i64, .int .i64, .int .i64, .int .i64, .int .i64, .int .i64, .int .i64, .int .i64, .int .i64, .int .i64] x1.us.length (encL encU x1.us) (encL encU x1.us)))/\(((RLe (szW x1.ws) (szW x1.ws))/\(RowsEq [.int .u64] (szW x1.ws) (encL encW x1.ws) (encL encW x1.ws)))/\True)))))))))))))))))/\((decide (Prod.snd (worstAt (distG x1.g x1.ts (freeL x1.us) true) (nodesW x1.g.n x1.ws) x6) < (0 : Int)) = true)-> ((((0 : Int) <= (nodesW x4.g.n x4.ws).getD (0 + Int.toNat (x6 : Int)) default)/\((nodesW x4.g.n x4.ws).getD (0 + Int.toNat (x6 : Int)) default < (x3.g.n : Int)))/\((0 + Int.toNat ((nodesW x4.g.n x4.ws).getD (0 + Int.toNat (x6 : Int)) default) < x3.g.n)/\((((-9223372036854775808 : Int) <= (x6 : Int) + 1)/\((x6 : Int) + 1 <= (9223372036854775807 : Int)))/\(∃ x15 : Nat, (((nodesW x1.g.n x1.ws).length - x15 < (nodesW x1.g.n x1.ws).length - x6)/\((x15 <= (nodesW x1.g.n x1.ws).length)/\((((x6 : Int) + 1 = (x15 : Int))/\(((distG x3.g x3.ts (freeL x3.us) true).getD (0 + Int.toNat ((nodesW x4.g.n x4.ws).getD (0 + Int.toNat (x6 : Int)) default)) default = Prod.fst (worstAt (distG x1.g x1.ts (freeL x1.us) true) (nodesW x1.g.n x1.ws) x15))/\(((nodesW x4.g.n x4.ws).getD (0 + Int.toNat (x6 : Int)) default = Prod.snd (worstAt (distG x1.g x1.ts (freeL x1.us) true) (nodesW x1.g.n x1.ws) x15))/\(((↑(nodesW x4.g.n x4.ws).length : Int) = (↑(nodesW x4.g.n x4.ws).length : Int))/\((0=0/\((nodesW x4.g.n x4.ws).length = (nodesW x4.g.n x4.ws).length))/\(((szW x1.ws = szW x1.ws)/\True)/\((0=0 /\ 0=0)/\((0=0 /\ x3.g.n = x3.g.n)/\((0=0 /\ x3.g.n = x3.g.n)/\((0=0 /\ x1.us.length = x1.us.length)/\((0=0 /\ x1.ts.length = x1.ts.length)/\((0=0 /\ 0=0)/\(((0 : Int) = 0)/\(((0 : Int) = 0)/\((0=0 /\ 0=0)/\((0=0 /\ 0=0)/\((0=0 /\ x1.ts.length = x1.ts.length)/\((0=0 /\ x1.us.length = x1.us.length)/\(((szW x1.ws = szW x1.ws)/\True)/\True)))))))))))))))))))/\(((RLe (nodesW x4.g.n x4.ws).length (nodesW x4.g.n x4.ws).length)/\(RowsEq [.int .i64] (nodesW x4.g.n x4.ws).length (encL encI (nodesW x4.g.n x4.ws)) (encL encI (nodesW x4.g.n x4.ws))))/\(((RLe x3.g.n x3.g.n)/\(RowsEq [.int .i64] x3.g.n (encL encI (distG x3.g x3.ts (freeL x3.us) true)) (encL encI (distG x3.g x3.ts (freeL x3.us) true))))/\(((szW x1.ws = szW x1.ws)/\True)/\((RLe 1 1/\(RowsEq [.sl [.int .i64, .int .i64, .int .i64], .sl [.sl [.int .i64]], .sl [.sl [.int .i64]]] 1 (encG x1.g) (encG x1.g)))/\(((RLe x1.ts.length x1.ts.length)/\(RowsEq [.int .i64] x1.ts.length (encL encI x1.ts) (encL encI x1.ts)))/\(((RLe x1.us.length x1.us.length)/\(RowsEq [.int .i64, .int .i64, .int .i64, .int .i64, .int .i64, .int .i64, .int .i64, .int .i64, .int .i64, .int .i64] x1.us.length (encL encU x1.us) (encL encU x1.us)))/\(((RLe (szW x1.ws) (szW x1.ws))/\(RowsEq [.int .u64] (szW x1.ws) (encL encW x1.ws) (encL encW x1.ws)))/\True)))))))))))))))))))/\((decide ((x6 : Int) < (↑(nodesW x4.g.n x4.ws).length : Int)) = false)-> (((Prod.fst (worstAt (distG x1.g x1.ts (freeL x1.us) true) (nodesW x1.g.n x1.ws) x6) = Prod.fst (worstW x1.g x1.ts x1.us x1.ws))/\((Prod.snd (worstAt (distG x1.g x1.ts (freeL x1.us) true) (nodesW x1.g.n x1.ws) x6) = Prod.snd (worstW x1.g x1.ts x1.us x1.ws))/\True))/\True)))))))))))))))))) = (Keeps cfgK2 Tryd.f13 wwaitC wwaitI) by kernel_rfl) (fun x1 => fun h2 => ⟨({ g := YX.g x1, ts := YX.ts x1, us := YX.us x1, of := @List.nil Int : UX }),
(by (try dsimp only at *); exact h2.u),
⟨⟨rfl,rfl⟩,
⟨rfl,rfl⟩,
⟨rfl,rfl⟩,trivial⟩,
⟨⟨⟨Nat.le_refl _⟩,RowsEq.rfl'⟩,
⟨⟨Nat.le_refl _⟩,RowsEq.rfl'⟩,
⟨⟨Nat.le_refl _⟩,RowsEq.rfl'⟩,trivial⟩,
({ g := YX.g x1, ws := YX.ws x1 : GWX }),
(by (try dsimp only at *); exact h2.g),
⟨⟨rfl,rfl⟩,
⟨rfl,trivial⟩,trivial⟩,
⟨⟨⟨Nat.le_refl _⟩,RowsEq.rfl'⟩,
⟨⟨Nat.le_refl _⟩,RowsEq.rfl'⟩,trivial⟩,
((0 : Nat)),
⟨(by (try dsimp only at *); omega),
⟨(by (try dsimp only at *); omega),
(by (try dsimp only at *); rfl),
(by (try dsimp only at *); rfl),rfl,
⟨rfl,rfl⟩,
⟨rfl,trivial⟩,
⟨rfl,rfl⟩,
⟨rfl,rfl⟩,
⟨rfl,rfl⟩,
⟨rfl,rfl⟩,
⟨rfl,rfl⟩,
⟨rfl,rfl⟩,rfl,rfl,
⟨rfl,rfl⟩,
⟨rfl,rfl⟩,
⟨rfl,rfl⟩,
⟨rfl,rfl⟩,
⟨rfl,trivial⟩,trivial⟩,
⟨⟨Nat.le_refl _⟩,RowsEq.rfl'⟩,
⟨⟨Nat.le_refl _⟩,RowsEq.rfl'⟩,
⟨rfl,trivial⟩,
⟨⟨Nat.le_refl _⟩,RowsEq.rfl'⟩,
⟨⟨Nat.le_refl _⟩,RowsEq.rfl'⟩,
⟨⟨Nat.le_refl _⟩,RowsEq.rfl'⟩,
⟨⟨Nat.le_refl _⟩,RowsEq.rfl'⟩,trivial⟩,
fun x6 => fun h7 => ⟨fun g8 => have h8 := of_decide_eq_true g8; ⟨⟨(by (try dsimp only at *); omega),
(by (try dsimp only at *); omega)⟩,
(by (try dsimp only at *); omega),
fun g9 => have h9 := of_decide_eq_false g9; ⟨⟨(by (try dsimp only at *); ((try simp only [Nat.zero_add, Int.toNat_natCast] at *); have := nodesW_at (n := x1.g.n) (ws := x1.ws) (k := x6) (by omega); omega)),
(by (try dsimp only at *); ((try simp only [Nat.zero_add, Int.toNat_natCast] at *); have := nodesW_at (n := x1.g.n) (ws := x1.ws) (k := x6) (by omega); omega))⟩,
(by (try dsimp only at *); ((try simp only [Nat.zero_add, Int.toNat_natCast] at *); have := nodesW_at (n := x1.g.n) (ws := x1.ws) (k := x6) (by omega); omega)),
fun g10 => have h10 := of_decide_eq_true g10; ⟨⟨(by (try dsimp only at *); ((try simp only [Nat.zero_add, Int.toNat_natCast] at *); have := nodesW_at (n := x1.g.n) (ws := x1.ws) (k := x6) (by omega); omega)),
(by (try dsimp only at *); ((try simp only [Nat.zero_add, Int.toNat_natCast] at *); have := nodesW_at (n := x1.g.n) (ws := x1.ws) (k := x6) (by omega); omega))⟩,
(by (try dsimp only at *); ((try simp only [Nat.zero_add, Int.toNat_natCast] at *); have := nodesW_at (n := x1.g.n) (ws := x1.ws) (k := x6) (by omega); omega)),
⟨(by (try dsimp only at *); omega),
(by (try dsimp only at *); (have := nodesW_len x1.g.n x1.ws; (try simp only at *); omega))⟩,
(x6 + (1 : Nat)),
(by (try dsimp only at *); omega),
(by (try dsimp only at *); omega),
⟨(by (try dsimp only at *); omega),
(by (try dsimp only at *); (((try simp only [Nat.zero_add, Int.toNat_natCast] at *); have e := (worst_up ‹_› ‹_›); first | (rw [e]; done) | (rw [e]; rfl) | (rw [e]; exact RowsEq.rfl') | (rw [e]; exact pushL_rows) | (simp only [e, List.length_append, List.length_singleton]; done) | (simp only [e, List.length_append, List.length_singleton]; omega)))),
(by (try dsimp only at *); (((try simp only [Nat.zero_add, Int.toNat_natCast] at *); have e := (worst_up ‹_› ‹_›); first | (rw [e]; done) | (rw [e]; rfl) | (rw [e]; exact RowsEq.rfl') | (rw [e]; exact pushL_rows) | (simp only [e, List.length_append, List.length_singleton]; done) | (simp only [e, List.length_append, List.length_singleton]; omega)))),rfl,
⟨rfl,rfl⟩,
⟨rfl,trivial⟩,
⟨rfl,rfl⟩,
⟨rfl,rfl⟩,
⟨rfl,rfl⟩,
⟨rfl,rfl⟩,
⟨rfl,rfl⟩,
⟨rfl,rfl⟩,rfl,rfl,
⟨rfl,rfl⟩,
⟨rfl,rfl⟩,
⟨rfl,rfl⟩,
⟨rfl,rfl⟩,
⟨rfl,trivial⟩,trivial⟩,
⟨⟨Nat.le_refl _⟩,RowsEq.rfl'⟩,
⟨⟨Nat.le_refl _⟩,RowsEq.rfl'⟩,
⟨rfl,trivial⟩,
⟨⟨Nat.le_refl _⟩,RowsEq.rfl'⟩,
⟨⟨Nat.le_refl _⟩,RowsEq.rfl'⟩,
⟨⟨Nat.le_refl _⟩,RowsEq.rfl'⟩,
⟨⟨Nat.le_refl _⟩,RowsEq.rfl'⟩,trivial⟩,
fun g12 => have h12 := of_decide_eq_false g12; ⟨⟨(by (try dsimp only at *); omega),
(by (try dsimp only at *); (have := nodesW_len x1.g.n x1.ws; (try simp only at *); omega))⟩,
(x6 + (1 : Nat)),
(by (try dsimp only at *); omega),
(by (try dsimp only at *); omega),
⟨(by (try dsimp only at *); omega),
(by (try dsimp only at *); (((try simp only [Nat.zero_add, Int.toNat_natCast] at *); have e := (worst_no ‹_› ‹_› ‹_›); first | (rw [e]; done) | (rw [e]; rfl) | (rw [e]; exact RowsEq.rfl') | (rw [e]; exact pushL_rows) | (simp only [e, List.length_append, List.length_singleton]; done) | (simp only [e, List.length_append, List.length_singleton]; omega)))),
(by (try dsimp only at *); (((try simp only [Nat.zero_add, Int.toNat_natCast] at *); have e := (worst_no ‹_› ‹_› ‹_›); first | (rw [e]; done) | (rw [e]; rfl) | (rw [e]; exact RowsEq.rfl') | (rw [e]; exact pushL_rows) | (simp only [e, List.length_append, List.length_singleton]; done) | (simp only [e, List.length_append, List.length_singleton]; omega)))),rfl,
⟨rfl,rfl⟩,
⟨rfl,trivial⟩,
⟨rfl,rfl⟩,
⟨rfl,rfl⟩,
⟨rfl,rfl⟩,
⟨rfl,rfl⟩,
⟨rfl,rfl⟩,
⟨rfl,rfl⟩,rfl,rfl,
⟨rfl,rfl⟩,
⟨rfl,rfl⟩,
⟨rfl,rfl⟩,
⟨rfl,rfl⟩,
⟨rfl,trivial⟩,trivial⟩,
⟨⟨Nat.le_refl _⟩,RowsEq.rfl'⟩,
⟨⟨Nat.le_refl _⟩,RowsEq.rfl'⟩,
⟨rfl,trivial⟩,
⟨⟨Nat.le_refl _⟩,RowsEq.rfl'⟩,
⟨⟨Nat.le_refl _⟩,RowsEq.rfl'⟩,
⟨⟨Nat.le_refl _⟩,RowsEq.rfl'⟩,
⟨⟨Nat.le_refl _⟩,RowsEq.rfl'⟩,trivial⟩⟩,
fun g14 => have h14 := of_decide_eq_true g14; ⟨⟨(by (try dsimp only at *); ((try simp only [Nat.zero_add, Int.toNat_natCast] at *); have := nodesW_at (n := x1.g.n) (ws := x1.ws) (k := x6) (by omega); omega)),
(by (try dsimp only at *); ((try simp only [Nat.zero_add, Int.toNat_natCast] at *); have := nodesW_at (n := x1.g.n) (ws := x1.ws) (k := x6) (by omega); omega))⟩,
(by (try dsimp only at *); ((try simp only [Nat.zero_add, Int.toNat_natCast] at *); have := nodesW_at (n := x1.g.n) (ws := x1.ws) (k := x6) (by omega); omega)),
⟨(by (try dsimp only at *); omega),
(by (try dsimp only at *); (have := nodesW_len x1.g.n x1.ws; (try simp only at *); omega))⟩,
(x6 + (1 : Nat)),
(by (try dsimp only at *); omega),
(by (try dsimp only at *); omega),
⟨(by (try dsimp only at *); omega),
(by (try dsimp only at *); (((try simp only [Nat.zero_add, Int.toNat_natCast] at *); have e := (worst_neg ‹_› ‹_›); first | (rw [e]; done) | (rw [e]; rfl) | (rw [e]; exact RowsEq.rfl') | (rw [e]; exact pushL_rows) | (simp only [e, List.length_append, List.length_singleton]; done) | (simp only [e, List.length_append, List.length_singleton]; omega)))),
(by (try dsimp only at *); (((try simp only [Nat.zero_add, Int.toNat_natCast] at *); have e := (worst_neg ‹_› ‹_›); first | (rw [e]; done) | (rw [e]; rfl) | (rw [e]; exact RowsEq.rfl') | (rw [e]; exact pushL_rows) | (simp only [e, List.length_append, List.length_singleton]; done) | (simp only [e, List.length_append, List.length_singleton]; omega)))),rfl,
⟨rfl,rfl⟩,
⟨rfl,trivial⟩,
⟨rfl,rfl⟩,
⟨rfl,rfl⟩,
⟨rfl,rfl⟩,
⟨rfl,rfl⟩,
⟨rfl,rfl⟩,
⟨rfl,rfl⟩,rfl,rfl,
⟨rfl,rfl⟩,
⟨rfl,rfl⟩,
⟨rfl,rfl⟩,
⟨rfl,rfl⟩,
⟨rfl,trivial⟩,trivial⟩,
⟨⟨Nat.le_refl _⟩,RowsEq.rfl'⟩,
⟨⟨Nat.le_refl _⟩,RowsEq.rfl'⟩,
⟨rfl,trivial⟩,
⟨⟨Nat.le_refl _⟩,RowsEq.rfl'⟩,
⟨⟨Nat.le_refl _⟩,RowsEq.rfl'⟩,
⟨⟨Nat.le_refl _⟩,RowsEq.rfl'⟩,
⟨⟨Nat.le_refl _⟩,RowsEq.rfl'⟩,trivial⟩⟩,
fun g16 => have h16 := of_decide_eq_false g16; ⟨⟨(by (try dsimp only at *); exact congrArg Prod.fst (worst_end h7 h16)),
(by (try dsimp only at *); exact congrArg Prod.snd (worst_end h7 h16)),trivial⟩,trivial⟩⟩⟩)
theorem wwait_good : Good Tryd.prog 13 wwaitC /\ FnOk Tryd.prog 13 := good_of tok conK2 (fn := Tryd.f13) rfl (by decide +kernel) (fun _ => rfl) wwait_keeps
end Go.Sym