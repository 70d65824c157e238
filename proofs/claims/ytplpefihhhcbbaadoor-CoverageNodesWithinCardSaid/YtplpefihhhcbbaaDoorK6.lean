import Derived.Test.YtplpefihhhcbbaaDoorK5
import Derived.Test.YtplpefihhhcbbaaDoorXD
namespace Go.Sym
set_option linter.unusedVariables false
set_option linter.unusedSimpArgs false
open Go.Proofs
set_option maxHeartbeats 4000000
structure BWX where
 g : Gr
 ts : List Int
 ws : List Nat
 u : Int
structure BWok (x : BWX) : Prop where
 g : GOk x.g
 n : x.g.n <= 12
 w : WOk x.ws
def distP (x : BWX) (p : Nat) : List Int := distG x.g x.ts [(p : Int)] true
def srchOf (x : BWX) : Srch := ⟨x.g.n, distP x, nodesW x.g.n x.ws⟩
def boundW (x : BWX) : Int × List Int :=
 if x.u < 0 ∨ 4 < x.u then (0, []) else if x.u = 0 then (if (nodesW x.g.n x.ws).length = 0 then 0 else 4611686018427387904, []) else
 ((placeR (srchOf x) x.u.toNat [] 0 ⟨false, 0, []⟩).worst, (placeR (srchOf x) x.u.toNat [] 0 ⟨false, 0, []⟩).best)
def cboundC : CT where
 X := BWX
 pre := BWok
 args := fun x => [.p 100000 0 0, .sl 100001 0 x.ts.length, setV x.ws 100003, .i .i64 x.u]
 g0 := fun x => graphH x.g 100000 ++ [(100001, .rows .bor k1 x.ts.length (encL encI x.ts))] ++ setH x.ws .bor 100003
 res := fun x => .tup [.i .i64 (boundW x).1, .sl 1 0 (boundW x).2.length]
 g1 := fun x => [(1, .rows .own k1 (boundW x).2.length (encL encI (boundW x).2))]
def cboundI (x : BWX) (id : Nat) : Option Inv := match id with
 | 0 => some { X := Nat, ok := fun k => k <= x.g.n, fr := fun k => [(38, .i .i64 k), (10, .p 63 0 0)],
               hp := fun k => [(63, .one .own [.sl 61 0 k, .sl 62 0 (nodesW x.g.n x.ws).length, .ns, .bt false, .i .i64 0, .ns]), (61, .rows .own kLL k (encLL (distP x))), (62, .rows .own k1 (nodesW x.g.n x.ws).length (encL encI (nodesW x.g.n x.ws)))], me := fun k => x.g.n - k }
 | _ => none
def cfgCb : Cfg := ⟨T, [], [(38, .one nodesC), (33, .one nodesOfC), (39, .one (fromC true)), (40, .one (placeC 5))], noInv, 60, {}⟩
theorem conCb : ConOk Tryd.prog cfgCb := ConL.ok (.cons (ConL.one nodes_good) (.cons (ConL.one nodesOf_good) (.cons (ConL.one from_good) (.cons (ConL.one (place_good 5)) .nil))))
theorem pushLL_rows {f : Nat -> List Int} {k n : Nat} {g : Nat -> Nat -> D} (hn : n = (f k).length) (hg : ∀ r, r < n -> ∀ c, g r c = .i ((f k).getD r default)) : RowsEq kLL (k + 1) (appRows k (encLL f) 0 (litRows [[.l n g]])) (encLL f) := by
 refine ⟨fun r hr => ?_⟩
 by_cases h : r < k
 ·exact rowEq_of_eq (by funext c; unfold appRows; rw [if_pos h])
 ·have e : r = k := by omega
  subst e
  have e2 : appRows r (encLL f) 0 (litRows [[.l n g]]) r 0 = .l n g := by unfold appRows; rw [if_neg h, Nat.sub_self]; rfl
  refine ⟨?_, trivial⟩
  rw [e2]
  refine ⟨hn, fun j hj => ?_⟩
  exact rowEq_of_eq (by funext c; exact hg j hj c)
theorem distP_len {x : BWX} (h : BWok x) (p : Nat) : (distP x p).length = x.g.n := distF_len (netG_ok h.g (wsOk_tt _ _) true) _
theorem nodesW_mem {n : Nat} {ws : List Nat} {v : Int} (h : v ∈ nodesW n ws) : 0 <= v /\ v < n := by
 unfold nodesW at h
 rw [List.mem_filter] at h
 exact ⟨(elemsZ_mem.1 h.1).1, of_decide_eq_true h.2⟩
theorem srch_ok {x : BWX} (h : BWok x) : SrchOk (srchOf x) [] :=
 ⟨fun p _ => distP_len h p, fun k hk => nodesW_at hk, fun k hk => (by simp at hk), nodesW_len _ _, Nat.zero_le _⟩
theorem bw_out {x : BWX} (h : x.u < 0 ∨ 4 < x.u) : boundW x = (0, []) := if_pos h
theorem bw_nil {x : BWX} (h : x.u = 0) (h2 : ((nodesW x.g.n x.ws).length : Int) = 0) : boundW x = (0, []) := by unfold boundW; rw [if_neg (by omega), if_pos h, if_pos (by omega)]
theorem bw_inf {x : BWX} (h : x.u = 0) (h2 : ¬ ((nodesW x.g.n x.ws).length : Int) = 0) : boundW x = (4611686018427387904, []) := by unfold boundW; rw [if_neg (by omega), if_pos h, if_neg (by omega)]
theorem bw_put {x : BWX} (h : ¬ x.u < 0) (h1 : ¬ 4 < x.u) (h2 : ¬ x.u = 0) : boundW x = ((placeR (srchOf x) x.u.toNat [] 0 ⟨false, 0, []⟩).worst, (placeR (srchOf x) x.u.toNat [] 0 ⟨false, 0, []⟩).best) := by unfold boundW; rw [if_neg (by omega), if_neg h2]
set_option maxRecDepth 100000 in
theorem cbound_keeps : Keeps cfgCb Tryd.f16 cboundC cboundI := Eq.mp (show ((∀ x1 : BWX, ((BWok x1)-> (∃ x3 : Gr, (True/\(((0=0 /\ 0=0)/\True)/\(((RLe 1 1/\(RowsEq [.sl [.int .i64, .int .i64, .int .i64], .sl [.sl [.int .i64]], .sl [.sl [.int .i64]]] 1 (encG x1.g) (encG x3)))/\True)/\(((decide (12 < (x3.n : Int)) = false)-> (((decide (x1.u < (0 : Int)) = false)-> (((decide (4 < x1.u) = true)-> ((((0 : Int) = Prod.fst (boundW x1))/\((True/\(0=0/\((Prod.snd (boundW x1)).length = (0 : Nat))))/\True))/\(((Prod.snd (boundW x1)).length = (0 : Nat))/\True)))/\((decide (4 < x1.u) = false)-> (∃ x8 : GWX, ((GWok x8)/\(((0=0 /\ 0=0)/\(((szW x1.ws = szW x8.ws)/\True)/\True))/\(((RLe 1 1/\(RowsEq [.sl [.int .i64, .int .i64, .int .i64], .sl [.sl [.int .i64]], .sl [.sl [.int .i64]]] 1 (encG x1.g) (encG x8.g)))/\(((RLe (szW x8.ws) (szW x1.ws))/\(RowsEq [.int .u64] (szW x8.ws) (encL encW x1.ws) (encL encW x8.ws)))/\True))/\(((decide (x1.u = (0 : Int)) = true)-> (((decide ((↑(nodesW x8.g.n x8.ws).length : Int) = 0) = true)-> ((((0 : Int) = Prod.fst (boundW x1))/\((True/\(0=0/\((Prod.snd (boundW x1)).length = (0 : Nat))))/\True))/\(((Prod.snd (boundW x1)).length = (0 : Nat))/\True)))/\((decide ((↑(nodesW x8.g.n x8.ws).length : Int) = 0) = false)-> ((((4611686018427387904 : Int) = Prod.fst (boundW x1))/\((True/\(0=0/\((Prod.snd (boundW x1)).length = (0 : Nat))))/\True))/\(((Prod.snd (boundW x1)).length = (0 : Nat))/\True)))))/\((decide (x1.u = (0 : Int)) = false)-> (∃ x13 : Gr, (True/\(((0=0 /\ 0=0)/\True)/\(((RLe 1 1/\(RowsEq [.sl [.int .i64, .int .i64, .int .i64], .sl [.sl [.int .i64]], .sl [.sl [.int .i64]]] 1 (encG x1.g) (encG x13)))/\True)/\(∃ x14 : Nat, (((x14 <= x1.g.n)/\(((0 = (x14 : Int))/\((0=0 /\ 0=0)/\(((x13.n : Int) = (x13.n : Int))/\((0=0 /\ 0=0)/\((decide (x1.u = (0 : Int)) = decide (x1.u = (0 : Int)))/\(x1.u = x1.u/\(((szW x1.ws = szW x1.ws)/\True)/\((0=0 /\ 0=0)/\((decide (4 < x1.u) = decide (4 < x1.u))/\((decide (4 < x1.u) = decide (4 < x1.u))/\(x1.u = x1.u/\((decide (x1.u < (0 : Int)) = decide (x1.u < (0 : Int)))/\((decide (x1.u < (0 : Int)) = decide (x1.u < (0 : Int)))/\((decide (x1.u < (0 : Int)) = decide (x1.u < (0 : Int)))/\(x1.u = x1.u/\((decide (12 < (x3.n : Int)) = decide (12 < (x3.n : Int)))/\((decide (12 < (x3.n : Int)) = decide (12 < (x3.n : Int)))/\(((x3.n : Int) = (x3.n : Int))/\((0=0 /\ 0=0)/\(True/\(((0 : Int) = 0)/\((0=0 /\ 0=0)/\((0=0 /\ 0=0)/\((0=0 /\ x1.ts.length = x1.ts.length)/\(((szW x1.ws = szW x1.ws)/\True)/\(x1.u = x1.u/\True))))))))))))))))))))))))))/\(((True/\(0=0/\(x14 = (0 : Nat))))/\((0=0/\((nodesW x8.g.n x8.ws).length = (nodesW x1.g.n x1.ws).length))/\(True/\(false = false/\(((0 : Int) = 0)/\(True/\True))))))/\((x14 = (0 : Nat))/\(((RLe (nodesW x1.g.n x1.ws).length (nodesW x8.g.n x8.ws).length)/\(RowsEq [.int .i64] (nodesW x1.g.n x1.ws).length (encL encI (nodesW x8.g.n x8.ws)) (encL encI (nodesW x1.g.n x1.ws))))/\(((szW x1.ws = szW x1.ws)/\True)/\((RLe 1 1/\(RowsEq [.sl [.int .i64, .int .i64, .int .i64], .sl [.sl [.int .i64]], .sl [.sl [.int .i64]]] 1 (encG x1.g) (encG x1.g)))/\(((RLe x1.ts.length x1.ts.length)/\(RowsEq [.int .i64] x1.ts.length (encL encI x1.ts) (encL encI x1.ts)))/\(((RLe (szW x1.ws) (szW x1.ws))/\(RowsEq [.int .u64] (szW x1.ws) (encL encW x1.ws) (encL encW x1.ws)))/\True)))))))))/\(∀ x15 : Nat, ((x15 <= x1.g.n)-> (((decide ((x15 : Int) < (x13.n : Int)) = true)-> (((True/\True)/\True)/\(∃ x18 : FX, ((FXok x18)/\(((0=0 /\ 0=0)/\((0=0 /\ x1.ts.length = x18.ts.length)/\((0=0/\((1 : Nat) = x18.src.length))/\True)))/\(((RLe 1 1/\(RowsEq [.sl [.int .i64, .int .i64, .int .i64], .sl [.sl [.int .i64]], .sl [.sl [.int .i64]]] 1 (encG x1.g) (encG x18.g)))/\(((RLe x18.ts.length x1.ts.length)/\(RowsEq [.int .i64] x18.ts.length (encL encI x1.ts) (encL encI x18.ts)))/\(((RLe x18.src.length 1)/\(RowsEq [.int .i64] x18.src.length (litRows ((D.i (x15 : Int) :: @List.nil D) :: @List.nil (List D))) (encL encI x18.src)))/\True)))/\(((((0 : Nat) + x18.g.n <= x18.g.n)/\True)/\True)/\((0=0/\((x15 <= x15)/\(((1 : Nat) <= (1 : Nat))/\(x15 + (1 : Nat) <= (1073741824 : Nat)))))/\((((-9223372036854775808 : Int) <= (x15 : Int) + 1)/\((x15 : Int) + 1 <= (9223372036854775807 : Int)))/\(∃ x19 : Nat, ((x1.g.n - x19 < x1.g.n - x15)/\((x19 <= x1.g.n)/\((((x15 : Int) + 1 = (x19 : Int))/\((0=0 /\ 0=0)/\(((x13.n : Int) = (x13.n : Int))/\((0=0 /\ 0=0)/\((decide (x1.u = (0 : Int)) = decide (x1.u = (0 : Int)))/\(x1.u = x1.u/\(((szW x1.ws = szW x1.ws)/\True)/\((0=0 /\ 0=0)/\((decide (4 < x1.u) = decide (4 < x1.u))/\((decide (4 < x1.u) = decide (4 < x1.u))/\(x1.u = x1.u/\((decide (x1.u < (0 : Int)) = decide (x1.u < (0 : Int)))/\((decide (x1.u < (0 : Int)) = decide (x1.u < (0 : Int)))/\((decide (x1.u < (0 : Int)) = decide (x1.u < (0 : Int)))/\(x1.u = x1.u/\((decide (12 < (x3.n : Int)) = decide (12 < (x3.n : Int)))/\((decide (12 < (x3.n : Int)) = decide (12 < (x3.n : Int)))/\(((x3.n : Int) = (x3.n : Int))/\((0=0 /\ 0=0)/\(True/\(((0 : Int) = 0)/\((0=0 /\ 0=0)/\((0=0 /\ 0=0)/\((0=0 /\ x1.ts.length = x1.ts.length)/\(((szW x1.ws = szW x1.ws)/\True)/\(x1.u = x1.u/\True))))))))))))))))))))))))))/\(((0=0/\(x15 + (1 : Nat) = x19))/\((0=0/\((nodesW x1.g.n x1.ws).length = (nodesW x1.g.n x1.ws).length))/\(True/\(false = false/\(((0 : Int) = 0)/\(True/\True))))))/\(((RLe x19 (x15 + (1 : Nat)))/\(RowsEq [.sl [.int .i64]] x19 (appRows x15 (encLL (distP x1)) 0 (litRows (((D.l x18.g.n fun (r c : Nat) => D.i ((distG x18.g x18.ts x18.src true).getD ((0 : Nat) + r) default)) :: @List.nil D) :: @List.nil (List D)))) (encLL (distP x1))))/\(((RLe (nodesW x1.g.n x1.ws).length (nodesW x1.g.n x1.ws).length)/\(RowsEq [.int .i64] (nodesW x1.g.n x1.ws).length (encL encI (nodesW x1.g.n x1.ws)) (encL encI (nodesW x1.g.n x1.ws))))/\(((szW x1.ws = szW x1.ws)/\True)/\((RLe 1 1/\(RowsEq [.sl [.int .i64, .int .i64, .int .i64], .sl [.sl [.int .i64]], .sl [.sl [.int .i64]]] 1 (encG x1.g) (encG x1.g)))/\(((RLe x1.ts.length x1.ts.length)/\(RowsEq [.int .i64] x1.ts.length (encL encI x1.ts) (encL encI x1.ts)))/\(((RLe (szW x1.ws) (szW x1.ws))/\(RowsEq [.int .u64] (szW x1.ws) (encL encW x1.ws) (encL encW x1.ws)))/\True))))))))))))))))))))/\((decide ((x15 : Int) < (x13.n : Int)) = false)-> (∃ x21 : PLX, (((PLok x21)/\(x21.units < (5 : Nat)))/\(((0=0 /\ 0=0)/\((0 = (x21.first : Int))/\((x1.u = (x21.units : Int))/\True)))/\((((0=0 /\ x15 = x21.s.n)/\((0=0/\((nodesW x1.g.n x1.ws).length = x21.s.nodes.length))/\((True/\(0=0/\(x21.placed.length = (0 : Nat))))/\(false = x21.st.found/\(0 = x21.st.worst/\((True/\(0=0/\(x21.st.best.length = (0 : Nat))))/\True))))))/\(((RLe x21.s.n x15)/\(RowsEq [.sl [.int .i64]] x21.s.n (encLL (distP x1)) (encLL x21.s.f)))/\(((RLe x21.s.nodes.length (nodesW x1.g.n x1.ws).length)/\(RowsEq [.int .i64] x21.s.nodes.length (encL encI (nodesW x1.g.n x1.ws)) (encL encI x21.s.nodes)))/\((x21.placed.length = (0 : Nat))/\((x21.st.best.length = (0 : Nat))/\True)))))/\((((placeL x21).worst = Prod.fst (boundW x1))/\((0=0/\((placeL x21).best.length = (Prod.snd (boundW x1)).length))/\True))/\(((RLe (Prod.snd (boundW x1)).length (placeL x21).best.length)/\(RowsEq [.int .i64] (Prod.snd (boundW x1)).length (encL encI (placeL x21).best) (encL encI (Prod.snd (boundW x1)))))/\True)))))))))))))))))))))))))/\((decide (x1.u < (0 : Int)) = true)-> ((((0 : Int) = Prod.fst (boundW x1))/\((True/\(0=0/\((Prod.snd (boundW x1)).length = (0 : Nat))))/\True))/\(((Prod.snd (boundW x1)).length = (0 : Nat))/\True)))))/\((decide (12 < (x3.n : Int)) = true)-> ((((0 : Int) = Prod.fst (boundW x1))/\((True/\(0=0/\((Prod.snd (boundW x1)).length = (0 : Nat))))/\True))/\(((Prod.snd (boundW x1)).length = (0 : Nat))/\True))))))))))) = (Keeps cfgCb Tryd.f16 cboundC cboundI) by kernel_rfl) (fun x1 => fun h2 => ⟨(BWX.g x1),
 trivial,
⟨⟨rfl,rfl⟩,trivial⟩,
⟨⟨⟨Nat.le_refl _⟩,RowsEq.rfl'⟩,trivial⟩,
fun g4 => have h4 := of_decide_eq_false g4; ⟨fun g5 => have h5 := of_decide_eq_false g5; ⟨fun g6 => have h6 := of_decide_eq_true g6; ⟨⟨(by (try dsimp only at *); ((have e := (bw_out (x := x1) (by omega)); first | exact congrArg Prod.fst e | exact (congrArg Prod.fst e).symm | (show _ = (_ : Nat); rw [e]; done) | (rw [e]; exact Nat.le_refl _) | (rw [e]; exact RowsEq.rfl') | (rw [e]; rfl)))),
⟨trivial,rfl,
(by (try dsimp only at *); ((have e := (bw_out (x := x1) (by omega)); first | exact congrArg Prod.fst e | exact (congrArg Prod.fst e).symm | (show _ = (_ : Nat); rw [e]; done) | (rw [e]; exact Nat.le_refl _) | (rw [e]; exact RowsEq.rfl') | (rw [e]; rfl))))⟩,trivial⟩,
(by (try dsimp only at *); ((have e := (bw_out (x := x1) (by omega)); first | exact congrArg Prod.fst e | exact (congrArg Prod.fst e).symm | (show _ = (_ : Nat); rw [e]; done) | (rw [e]; exact Nat.le_refl _) | (rw [e]; exact RowsEq.rfl') | (rw [e]; rfl)))),trivial⟩,
fun g7 => have h7 := of_decide_eq_false g7; ⟨({ g := BWX.g x1, ws := BWX.ws x1 : GWX }),
(by (try dsimp only at *); exact ⟨h2.g.n, h2.w⟩),
⟨⟨rfl,rfl⟩,
⟨rfl,trivial⟩,trivial⟩,
⟨⟨⟨Nat.le_refl _⟩,RowsEq.rfl'⟩,
⟨⟨Nat.le_refl _⟩,RowsEq.rfl'⟩,trivial⟩,
fun g9 => have h9 := of_decide_eq_true g9; ⟨fun g10 => have h10 := of_decide_eq_true g10; ⟨⟨(by (try dsimp only at *); ((have e := (bw_nil (x := x1) h9 h10); first | exact congrArg Prod.fst e | exact (congrArg Prod.fst e).symm | (show _ = (_ : Nat); rw [e]; done) | (rw [e]; exact Nat.le_refl _) | (rw [e]; exact RowsEq.rfl') | (rw [e]; rfl)))),
⟨trivial,rfl,
(by (try dsimp only at *); ((have e := (bw_nil (x := x1) h9 h10); first | exact congrArg Prod.fst e | exact (congrArg Prod.fst e).symm | (show _ = (_ : Nat); rw [e]; done) | (rw [e]; exact Nat.le_refl _) | (rw [e]; exact RowsEq.rfl') | (rw [e]; rfl))))⟩,trivial⟩,
(by (try dsimp only at *); ((have e := (bw_nil (x := x1) h9 h10); first | exact congrArg Prod.fst e | exact (congrArg Prod.fst e).symm | (show _ = (_ : Nat); rw [e]; done) | (rw [e]; exact Nat.le_refl _) | (rw [e]; exact RowsEq.rfl') | (rw [e]; rfl)))),trivial⟩,
fun g11 => have h11 := of_decide_eq_false g11; ⟨⟨(by (try dsimp only at *); ((have e := (bw_inf (x := x1) h9 h11); first | exact congrArg Prod.fst e | exact (congrArg Prod.fst e).symm | (show _ = (_ : Nat); rw [e]; done) | (rw [e]; exact Nat.le_refl _) | (rw [e]; exact RowsEq.rfl') | (rw [e]; rfl)))),
⟨trivial,rfl,
(by (try dsimp only at *); ((have e := (bw_inf (x := x1) h9 h11); first | exact congrArg Prod.fst e | exact (congrArg Prod.fst e).symm | (show _ = (_ : Nat); rw [e]; done) | (rw [e]; exact Nat.le_refl _) | (rw [e]; exact RowsEq.rfl') | (rw [e]; rfl))))⟩,trivial⟩,
(by (try dsimp only at *); ((have e := (bw_inf (x := x1) h9 h11); first | exact congrArg Prod.fst e | exact (congrArg Prod.fst e).symm | (show _ = (_ : Nat); rw [e]; done) | (rw [e]; exact Nat.le_refl _) | (rw [e]; exact RowsEq.rfl') | (rw [e]; rfl)))),trivial⟩⟩,
fun g12 => have h12 := of_decide_eq_false g12; ⟨(BWX.g x1),trivial,
⟨⟨rfl,rfl⟩,trivial⟩,
⟨⟨⟨Nat.le_refl _⟩,RowsEq.rfl'⟩,trivial⟩,
((0 : Nat)),
⟨(by (try dsimp only at *); omega),
⟨(by (try dsimp only at *); omega),
⟨rfl,rfl⟩,rfl,
⟨rfl,rfl⟩,rfl,rfl,
⟨rfl,trivial⟩,
⟨rfl,rfl⟩,rfl,rfl,rfl,rfl,rfl,rfl,rfl,rfl,rfl,rfl,
⟨rfl,rfl⟩,trivial,rfl,
⟨rfl,rfl⟩,
⟨rfl,rfl⟩,
⟨rfl,rfl⟩,
⟨rfl,trivial⟩,rfl,trivial⟩,
⟨⟨trivial,rfl,rfl⟩,
⟨rfl,rfl⟩,trivial,rfl,rfl,trivial,trivial⟩,rfl,
⟨⟨Nat.le_refl _⟩,RowsEq.rfl'⟩,
⟨rfl,trivial⟩,
⟨⟨Nat.le_refl _⟩,RowsEq.rfl'⟩,
⟨⟨Nat.le_refl _⟩,RowsEq.rfl'⟩,
⟨⟨Nat.le_refl _⟩,RowsEq.rfl'⟩,trivial⟩,
fun x15 => fun h16 => ⟨fun g17 => have h17 := of_decide_eq_true g17; ⟨⟨⟨trivial,trivial⟩,trivial⟩,
({ g := BWX.g x1, ts := BWX.ts x1, src := (↑x15 : Int) :: @List.nil Int : FX }),
(by (try dsimp only at *); exact ⟨h2.g, h2.n, by show 1 <= 1048576; omega⟩),
⟨⟨rfl,rfl⟩,
⟨rfl,rfl⟩,
⟨rfl,
(by (try dsimp only at *); grind)⟩,trivial⟩,
⟨⟨⟨Nat.le_refl _⟩,RowsEq.rfl'⟩,
⟨⟨Nat.le_refl _⟩,RowsEq.rfl'⟩,
⟨⟨(by (try dsimp only at *); grind)⟩,
(by (try dsimp only at *); exact ⟨fun r hr => by have h1 : r < 1 := hr; have : r = 0 := (by omega); subst this; exact ⟨rfl, trivial⟩⟩)⟩,trivial⟩,
⟨⟨(by (try dsimp only at *); omega),trivial⟩,trivial⟩,
⟨rfl,
(by (try dsimp only at *); omega),
(by (try dsimp only at *); omega),
(by (try dsimp only at *); omega)⟩,
⟨(by (try dsimp only at *); omega),
(by (try dsimp only at *); omega)⟩,
(x15 + (1 : Nat)),
(by (try dsimp only at *); omega),
(by (try dsimp only at *); omega),
⟨(by (try dsimp only at *); omega),
⟨rfl,rfl⟩,rfl,
⟨rfl,rfl⟩,rfl,rfl,
⟨rfl,trivial⟩,
⟨rfl,rfl⟩,rfl,rfl,rfl,rfl,rfl,rfl,rfl,rfl,rfl,rfl,
⟨rfl,rfl⟩,trivial,rfl,
⟨rfl,rfl⟩,
⟨rfl,rfl⟩,
⟨rfl,rfl⟩,
⟨rfl,trivial⟩,rfl,trivial⟩,
⟨⟨rfl,rfl⟩,
⟨rfl,rfl⟩,trivial,rfl,rfl,trivial,trivial⟩,
⟨⟨Nat.le_refl _⟩,
(by (try dsimp only at *); exact pushLL_rows (distP_len h2 x15).symm (fun r hr c => by rw [Nat.zero_add]; rfl))⟩,
⟨⟨Nat.le_refl _⟩,RowsEq.rfl'⟩,
⟨rfl,trivial⟩,
⟨⟨Nat.le_refl _⟩,RowsEq.rfl'⟩,
⟨⟨Nat.le_refl _⟩,RowsEq.rfl'⟩,
⟨⟨Nat.le_refl _⟩,RowsEq.rfl'⟩,trivial⟩,
fun g20 => have h20 := of_decide_eq_false g20; ⟨({ s := srchOf x1, placed := @List.nil Int, st := { found := false, worst := (0 : Int), best := @List.nil Int : ST }, first := (0 : Nat), units := Int.toNat (BWX.u x1) : PLX }),
⟨(by (try dsimp only at *); exact ⟨srch_ok h2, h2.n, by show 0 + x1.u.toNat <= 4; omega, Nat.zero_le _⟩),
(by (try dsimp only at *); omega)⟩,
⟨⟨rfl,rfl⟩,
(by (try dsimp only at *); omega),
(by (try dsimp only at *); omega),trivial⟩,
⟨⟨⟨rfl,
(by (try dsimp only at *); (show (x15 : Nat) = x1.g.n; omega))⟩,
⟨rfl,
(by (try dsimp only at *); rfl)⟩,
⟨trivial,rfl,
(by (try dsimp only at *); grind)⟩,rfl,rfl,
⟨trivial,rfl,
(by (try dsimp only at *); grind)⟩,trivial⟩,
⟨⟨(by (try dsimp only at *); (show x1.g.n <= x15; omega))⟩,
(by (try dsimp only at *); exact RowsEq.rfl')⟩,
⟨⟨(by (try dsimp only at *); exact Nat.le_refl _)⟩,
(by (try dsimp only at *); exact RowsEq.rfl')⟩,
(by (try dsimp only at *); grind),
(by (try dsimp only at *); grind),trivial⟩,
⟨(by (try dsimp only at *); ((have e := (bw_put (x := x1) h5 h7 h12); first | exact congrArg Prod.fst e | exact (congrArg Prod.fst e).symm | (show _ = (_ : Nat); rw [e]; done) | (rw [e]; exact Nat.le_refl _) | (rw [e]; exact RowsEq.rfl') | (rw [e]; rfl)))),
⟨rfl,
(by (try dsimp only at *); ((have e := (bw_put (x := x1) h5 h7 h12); first | exact congrArg Prod.fst e | exact (congrArg Prod.fst e).symm | (show _ = (_ : Nat); rw [e]; done) | (rw [e]; exact Nat.le_refl _) | (rw [e]; exact RowsEq.rfl') | (rw [e]; rfl))))⟩,trivial⟩,
⟨⟨(by (try dsimp only at *); ((have e := (bw_put (x := x1) h5 h7 h12); first | exact congrArg Prod.fst e | exact (congrArg Prod.fst e).symm | (show _ = (_ : Nat); rw [e]; done) | (rw [e]; exact Nat.le_refl _) | (rw [e]; exact RowsEq.rfl') | (rw [e]; rfl))))⟩,
(by (try dsimp only at *); ((have e := (bw_put (x := x1) h5 h7 h12); first | exact congrArg Prod.fst e | exact (congrArg Prod.fst e).symm | (show _ = (_ : Nat); rw [e]; done) | (rw [e]; exact Nat.le_refl _) | (rw [e]; exact RowsEq.rfl') | (rw [e]; rfl))))⟩,trivial⟩⟩⟩⟩⟩,
fun g22 => have h22 := of_decide_eq_true g22; ⟨⟨(by (try dsimp only at *); ((have e := (bw_out (x := x1) (by omega)); first | exact congrArg Prod.fst e | exact (congrArg Prod.fst e).symm | (show _ = (_ : Nat); rw [e]; done) | (rw [e]; exact Nat.le_refl _) | (rw [e]; exact RowsEq.rfl') | (rw [e]; rfl)))),
⟨trivial,rfl,
(by (try dsimp only at *); ((have e := (bw_out (x := x1) (by omega)); first | exact congrArg Prod.fst e | exact (congrArg Prod.fst e).symm | (show _ = (_ : Nat); rw [e]; done) | (rw [e]; exact Nat.le_refl _) | (rw [e]; exact RowsEq.rfl') | (rw [e]; rfl))))⟩,trivial⟩,
(by (try dsimp only at *); ((have e := (bw_out (x := x1) (by omega)); first | exact congrArg Prod.fst e | exact (congrArg Prod.fst e).symm | (show _ = (_ : Nat); rw [e]; done) | (rw [e]; exact Nat.le_refl _) | (rw [e]; exact RowsEq.rfl') | (rw [e]; rfl)))),trivial⟩⟩,
fun g23 => have h23 := of_decide_eq_true g23; ⟨⟨(by (try dsimp only at *); (exfalso; have := h2.n; omega)),
⟨trivial,rfl,
(by (try dsimp only at *); (exfalso; have := h2.n; omega))⟩,trivial⟩,
(by (try dsimp only at *); (exfalso; have := h2.n; omega)),trivial⟩⟩)
theorem cbound_good : Good Tryd.prog 16 cboundC /\ FnOk Tryd.prog 16 := good_of tok conCb (fn := Tryd.f16) rfl (by decide +kernel) (fun _ => rfl) cbound_keeps
end Go.Sym