import Derived.Test.YtplpefihhhcbbaaDoorK2
import Derived.Test.YtplpefihhhcbbaaDoorR6
import Derived.Test.YtplpefihhhcbbaaDoorXD
namespace Go.Sym
set_option linter.unusedVariables false
set_option linter.unusedSimpArgs false
open Go.Proofs
set_option maxHeartbeats 4000000
def withinW (g : Gr) (ts : List Int) (us : List Un) (ws : List Nat) (t : Int) : List Int := (nodesW g.n ws).filter (inB (distG g ts (freeL us) true) t)
def wAt (g : Gr) (ts : List Int) (us : List Un) (ws : List Nat) (t : Int) (k : Nat) : List Int := ((nodesW g.n ws).take k).filter (inB (distG g ts (freeL us) true) t)
theorem wAt_len (g : Gr) (ts : List Int) (us : List Un) (ws : List Nat) (t : Int) (k : Nat) : (wAt g ts us ws t k).length <= 4096 := filter_len (nodesW_len _ _)
theorem withinW_len (g : Gr) (ts : List Int) (us : List Un) (ws : List Nat) (t : Int) : (withinW g ts us ws t).length <= 4096 := Nat.le_trans (List.length_filter_le _ _) (nodesW_len _ _)
theorem w_yes {x : YX} (hx : YXok x) {k : Nat} (hk : (k : Int) < (nodesW x.g.n x.ws).length) (h1 : (distG x.g x.ts (freeL x.us) true).getD ((nodesW x.g.n x.ws).getD k default).toNat default <= x.t)
  (h2 : (distG x.g x.ts (freeL x.us) true).getD ((nodesW x.g.n x.ws).getD k default).toNat default ≠ 4611686018427387904) : wAt x.g x.ts x.us x.ws x.t (k + 1) = wAt x.g x.ts x.us x.ws x.t k ++ [(nodesW x.g.n x.ws).getD k default] := by
 have a := nodesW_at (n := x.g.n) (ws := x.ws) (k := k) (by omega)
 have b := dist_rng hx.u.g x.ts (freeL x.us) true (v := ((nodesW x.g.n x.ws).getD k default).toNat) (by show _ < x.g.n; omega)
 have b := b.2
 simp only at b
 exact filter_yes (by omega) (decide_eq_true ⟨h1, by omega⟩)
theorem w_no1 {x : YX} {k : Nat} (hk : (k : Int) < (nodesW x.g.n x.ws).length) (h1 : ¬ (distG x.g x.ts (freeL x.us) true).getD ((nodesW x.g.n x.ws).getD k default).toNat default <= x.t) :
  wAt x.g x.ts x.us x.ws x.t (k + 1) = wAt x.g x.ts x.us x.ws x.t k := filter_no (d := default) (by omega) (by unfold inB; rw [decide_eq_false (fun q => h1 q.1)]; decide)
theorem w_no2 {x : YX} {k : Nat} (hk : (k : Int) < (nodesW x.g.n x.ws).length) (h2 : ¬ (distG x.g x.ts (freeL x.us) true).getD ((nodesW x.g.n x.ws).getD k default).toNat default ≠ 4611686018427387904) :
  wAt x.g x.ts x.us x.ws x.t (k + 1) = wAt x.g x.ts x.us x.ws x.t k := filter_no (d := default) (by omega) (by unfold inB; rw [decide_eq_false (fun q => by have := q.2; omega)]; decide)
theorem w_end {x : YX} {k : Nat} (hle : k <= (nodesW x.g.n x.ws).length) (hk : ¬ (k : Int) < (nodesW x.g.n x.ws).length) : wAt x.g x.ts x.us x.ws x.t k = withinW x.g x.ts x.us x.ws x.t := by
 unfold wAt withinW; rw [List.take_of_length_le (by omega)]
def cwithinC : CT where
 X := YX
 pre := YXok
 args := fun x => [.p 100000 0 0, .sl 100001 0 x.ts.length, .sl 100002 0 x.us.length, setV x.ws 100003, .i .i64 x.t]
 g0 := fun x => graphH x.g 100000 ++ [(100001, .rows .bor k1 x.ts.length (encL encI x.ts)), (100002, .rows .bor kU x.us.length (encL encU x.us))] ++ setH x.ws .bor 100003
 res := fun x => setV (ofW (withinW x.g x.ts x.us x.ws x.t) (withinW x.g x.ts x.us x.ws x.t).length) 1
 g1 := fun x => setH (ofW (withinW x.g x.ts x.us x.ws x.t) (withinW x.g x.ts x.us x.ws x.t).length) .own 1
def cwithinI (x : YX) (id : Nat) : Option Inv := match id with
 | 0 => some { X := Nat, ok := fun k => k <= (nodesW x.g.n x.ws).length, fr := fun k => [(23, .i .i64 k), (12, .sl 61 0 (wAt x.g x.ts x.us x.ws x.t k).length)],
               hp := fun k => [(61, .rows .own k1 (wAt x.g x.ts x.us x.ws x.t k).length (encL encI (wAt x.g x.ts x.us x.ws x.t k)))], me := fun k => (nodesW x.g.n x.ws).length - k }
 | _ => none
def cfgK3 : Cfg := ⟨T, [], [(32, .one respC), (33, .one nodesOfC), (14, .one ofC)], noInv, 60, {}⟩
theorem conK3 : ConOk Tryd.prog cfgK3 := ConL.ok (.cons (ConL.one resp_good) (.cons (ConL.one nodesOf_good) (.cons (ConL.one of_good) .nil)))
set_option maxRecDepth 100000 in
theorem cwithin_keeps : Keeps cfgK3 Tryd.f24 cwithinC cwithinI := Eq.mp (show ((∀ x1 : YX, ((YXok x1)-> (∃ x3 : UX, ((UXok x3)/\(((0=0 /\ 0=0)/\((0=0 /\ x1.ts.length = x3.ts.length)/\((0=0 /\ x1.us.length = x3.us.length)/\True)))/\(((RLe 1 1/\(RowsEq [.sl [.int .i64, .int .i64, .int .i64], .sl [.sl [.int .i64]], .sl [.sl [.int .i64]]] 1 (encG x1.g) (encG x3.g)))/\(((RLe x3.ts.length x1.ts.length)/\(RowsEq [.int .i64] x3.ts.length (encL encI x1.ts) (encL encI x3.ts)))/\(((RLe x3.us.length x1.us.length)/\(RowsEq [.int .i64, .int .i64, .int .i64, .int .i64, .int .i64, .int .i64, .int .i64, .int .i64, .int .i64, .int .i64] x3.us.length (encL encU x1.us) (encL encU x3.us)))/\True)))/\(∃ x4 : GWX, ((GWok x4)/\(((0=0 /\ 0=0)/\(((szW x1.ws = szW x4.ws)/\True)/\True))/\(((RLe 1 1/\(RowsEq [.sl [.int .i64, .int .i64, .int .i64], .sl [.sl [.int .i64]], .sl [.sl [.int .i64]]] 1 (encG x1.g) (encG x4.g)))/\(((RLe (szW x4.ws) (szW x1.ws))/\(RowsEq [.int .u64] (szW x4.ws) (encL encW x1.ws) (encL encW x4.ws)))/\True))/\(∃ x5 : Nat, (((x5 <= (nodesW x1.g.n x1.ws).length)/\(((0 = (x5 : Int))/\((True/\(0=0/\((wAt x1.g x1.ts x1.us x1.ws x1.t x5).length = (0 : Nat))))/\(((↑(nodesW x4.g.n x4.ws).length : Int) = (↑(nodesW x4.g.n x4.ws).length : Int))/\((0=0/\((nodesW x4.g.n x4.ws).length = (nodesW x4.g.n x4.ws).length))/\(((szW x1.ws = szW x1.ws)/\True)/\((0=0 /\ 0=0)/\((0=0 /\ x3.g.n = x3.g.n)/\((0=0 /\ x3.g.n = x3.g.n)/\((0=0 /\ x1.us.length = x1.us.length)/\((0=0 /\ x1.ts.length = x1.ts.length)/\((0=0 /\ 0=0)/\((0=0 /\ 0=0)/\((0=0 /\ 0=0)/\((0=0 /\ 0=0)/\((0=0 /\ x1.ts.length = x1.ts.length)/\((0=0 /\ x1.us.length = x1.us.length)/\(((szW x1.ws = szW x1.ws)/\True)/\(x1.t = x1.t/\True))))))))))))))))))/\(((wAt x1.g x1.ts x1.us x1.ws x1.t x5).length = (0 : Nat))/\(((RLe (nodesW x4.g.n x4.ws).length (nodesW x4.g.n x4.ws).length)/\(RowsEq [.int .i64] (nodesW x4.g.n x4.ws).length (encL encI (nodesW x4.g.n x4.ws)) (encL encI (nodesW x4.g.n x4.ws))))/\(((RLe x3.g.n x3.g.n)/\(RowsEq [.int .i64] x3.g.n (encL encI (distG x3.g x3.ts (freeL x3.us) true)) (encL encI (distG x3.g x3.ts (freeL x3.us) true))))/\((True/\True)/\(((szW x1.ws = szW x1.ws)/\True)/\((RLe 1 1/\(RowsEq [.sl [.int .i64, .int .i64, .int .i64], .sl [.sl [.int .i64]], .sl [.sl [.int .i64]]] 1 (encG x1.g) (encG x1.g)))/\(((RLe x1.ts.length x1.ts.length)/\(RowsEq [.int .i64] x1.ts.length (encL encI x1.ts) (encL encI x1.ts)))/\(((RLe x1.us.length x1.us.length)/\(RowsEq [.int .i64, .int .i64, .int .i64, .int .i64, .int .i64, .int .i64, .int .i64, .int .i64, .int .i64, .int .i64] x1.us.length (encL encU x1.us) (encL encU x1.us)))/\(((RLe (szW x1.ws) (szW x1.ws))/\(RowsEq [.int .u64] (szW x1.ws) (encL encW x1.ws) (encL encW x1.ws)))/\True)))))))))))/\(∀ x6 : Nat, ((x6 <= (nodesW x1.g.n x1.ws).length)-> (((decide ((x6 : Int) < (↑(nodesW x4.g.n x4.ws).length : Int)) = true)-> ((((0 : Int) <= (x6 : Int))/\((x6 : Int) < (↑(nodesW x4.g.n x4.ws).length : Int)))/\((0 + Int.toNat (x6 : Int) < (nodesW x4.g.n x4.ws).length)/\((((0 : Int) <= (nodesW x4.g.n x4.ws).getD (0 + Int.toNat (x6 : Int)) default)/\((nodesW x4.g.n x4.ws).getD (0 + Int.toNat (x6 : Int)) default < (x3.g.n : Int)))/\((0 + Int.toNat ((nodesW x4.g.n x4.ws).getD (0 + Int.toNat (x6 : Int)) default) < x3.g.n)/\(((decide ((distG x3.g x3.ts (freeL x3.us) true).getD (0 + Int.toNat ((nodesW x4.g.n x4.ws).getD (0 + Int.toNat (x6 : Int)) default)) default <= x1.t) = true)-> ((((0 : Int) <= (nodesW x4.g.n x4.ws).getD (0 + Int.toNat (x6 : Int)) default)/\((nodesW x4.g.n x4.ws).getD (0 + Int.toNat (x6 : Int)) default < (x3.g.n : Int)))/\((0 + Int.toNat ((nodesW x4.g.n x4.ws).getD (0 + Int.toNat (x6 : Int)) default) < x3.g.n)/\(((decide ((distG x3.g x3.ts (freeL x3.us) true).getD (0 + Int.toNat ((nodesW x4.g.n x4.ws).getD (0 + Int.toNat (x6 : Int)) default)) default ≠ (4611686018427387904 : Int)) = true)-> (((True/\True)/\True)/\((0=0/\(((wAt x1.g x1.ts x1.us x1.ws x1.t x6).length <= (wAt x1.g x1.ts x1.us x1.ws x1.t x6).length)/\(((1 : Nat) <= (1 : Nat))/\((wAt x1.g x1.ts x1.us x1.ws x1.t x6).length + (1 : Nat) <= (1073741824 : Nat)))))/\((((-9223372036854775808 : Int) <= (x6 : Int) + 1)/\((x6 : Int) + 1 <= (9223372036854775807 : Int)))/\(∃ x11 : Nat, (((nodesW x1.g.n x1.ws).length - x11 < (nodesW x1.g.n x1.ws).length - x6)/\((x11 <= (nodesW x1.g.n x1.ws).length)/\((((x6 : Int) + 1 = (x11 : Int))/\((0=0/\((wAt x1.g x1.ts x1.us x1.ws x1.t x6).length + (1 : Nat) = (wAt x1.g x1.ts x1.us x1.ws x1.t x11).length))/\(((↑(nodesW x4.g.n x4.ws).length : Int) = (↑(nodesW x4.g.n x4.ws).length : Int))/\((0=0/\((nodesW x4.g.n x4.ws).length = (nodesW x4.g.n x4.ws).length))/\(((szW x1.ws = szW x1.ws)/\True)/\((0=0 /\ 0=0)/\((0=0 /\ x3.g.n = x3.g.n)/\((0=0 /\ x3.g.n = x3.g.n)/\((0=0 /\ x1.us.length = x1.us.length)/\((0=0 /\ x1.ts.length = x1.ts.length)/\((0=0 /\ 0=0)/\((0=0 /\ 0=0)/\((0=0 /\ 0=0)/\((0=0 /\ 0=0)/\((0=0 /\ x1.ts.length = x1.ts.length)/\((0=0 /\ x1.us.length = x1.us.length)/\(((szW x1.ws = szW x1.ws)/\True)/\(x1.t = x1.t/\True))))))))))))))))))/\(((RLe (wAt x1.g x1.ts x1.us x1.ws x1.t x11).length ((wAt x1.g x1.ts x1.us x1.ws x1.t x6).length + (1 : Nat)))/\(RowsEq [.int .i64] (wAt x1.g x1.ts x1.us x1.ws x1.t x11).length (appRows (wAt x1.g x1.ts x1.us x1.ws x1.t x6).length (encL encI (wAt x1.g x1.ts x1.us x1.ws x1.t x6)) 0 (litRows ((D.i ((nodesW x4.g.n x4.ws).getD (0 + Int.toNat (x6 : Int)) default) :: @List.nil D) :: @List.nil (List D)))) (encL encI (wAt x1.g x1.ts x1.us x1.ws x1.t x11))))/\(((RLe (nodesW x4.g.n x4.ws).length (nodesW x4.g.n x4.ws).length)/\(RowsEq [.int .i64] (nodesW x4.g.n x4.ws).length (encL encI (nodesW x4.g.n x4.ws)) (encL encI (nodesW x4.g.n x4.ws))))/\(((RLe x3.g.n x3.g.n)/\(RowsEq [.int .i64] x3.g.n (encL encI (distG x3.g x3.ts (freeL x3.us) true)) (encL encI (distG x3.g x3.ts (freeL x3.us) true))))/\((True/\True)/\(((szW x1.ws = szW x1.ws)/\True)/\((RLe 1 1/\(RowsEq [.sl [.int .i64, .int .i64, .int .i64], .sl [.sl [.int .i64]], .sl [.sl [.int .i64]]] 1 (encG x1.g) (encG x1.g)))/\(((RLe x1.ts.length x1.ts.length)/\(RowsEq [.int .i64] x1.ts.length (encL encI x1.ts) (encL encI x1.ts)))/\(((RLe x1.us.length x1.us.length)/\(RowsEq [.int .i64, .int .i64, .int .i64, .int .i64, .int .i64, .int .i64, .int .i64, .int .i64, .int .i64, .int .i64] x1.us.length (encL encU x1.us) (encL encU x1.us)))/\(((RLe (szW x1.ws) (szW x1.ws))/\(RowsEq [.int .u64] (szW x1.ws) (encL encW x1.ws) (encL encW x1.ws)))/\True)))))))))))))))))/\((decide ((distG x3.g x3.ts (freeL x3.us) true).getD (0 + Int.toNat ((nodesW x4.g.n x4.ws).getD (0 + Int.toNat (x6 : Int)) default)) default ≠ (4611686018427387904 : Int)) = false)-> ((((-9223372036854775808 : Int) <= (x6 : Int) + 1)/\((x6 : Int) + 1 <= (9223372036854775807 : Int)))/\(∃ x13 : Nat, (((nodesW x1.g.n x1.ws).length - x13 < (nodesW x1.g.n x1.ws).length - x6)/\((x13 <= (nodesW x1.g.n x1.ws).length)/\((((x6 : Int) + 1 = (x13 : Int))/\((0=0/\((wAt x1.g x1.ts x1.us x1.ws x1.t x6).length = (wAt x1.g x1.ts x1.us x1.ws x1.t x13).length))/\(((↑(nodesW x4.g.n x4.ws).length : Int) = (↑(nodesW x4.g.n x4.ws).length : Int))/\((0=0/\((nodesW x4.g.n x4.ws).length = (nodesW x4.g.n x4.ws).length))/\(((szW x1.ws = szW x1.ws)/\True)/\((0=0 /\ 0=0)/\((0=0 /\ x3.g.n = x3.g.n)/\((0=0 /\ x3.g.n = x3.g.n)/\((0=0 /\ x1.us.length = x1.us.length)/\((0=0 /\ x1.ts.length = x1.ts.length)/\((0=0 /\ 0=0)/\((0=0 /\ 0=0)/\((0=0 /\ 0=0)/\((0=0 /\ 0=0)/\((0=0 /\ x1.ts.length = x1.ts.length)/\((0=0 /\ x1.us.length = x1.us.length)/\(((szW x1.ws = szW x1.ws)/\True)/\(x1.t = x1.t/\True))))))))))))))))))/\(((RLe (wAt x1.g x1.ts x1.us x1.ws x1.t x13).length (wAt x1.g x1.ts x1.us x1.ws x1.t x6).length)/\(RowsEq [.int .i64] (wAt x1.g x1.ts x1.us x1.ws x1.t x13).length (encL encI (wAt x1.g x1.ts x1.us x1.ws x1.t x6)) (encL encI (wAt x1.g x1.ts x1.us x1.ws x1.t x13))))/\(((RLe (nodesW x4.g.n x4.ws).length (nodesW x4.g.n x4.ws).length)/\(RowsEq [.int .i64] (nodesW x4.g.n x4.ws).length (encL encI (nodesW x4.g.n x4.ws)) (encL encI (nodesW x4.g.n x4.ws))))/\(((RLe x3.g.n x3.g.n)/\(RowsEq [.int .i64] x3.g.n (encL encI (distG x3.g x3.ts (freeL x3.us) true)) (encL encI (distG x3.g x3.ts (freeL x3.us) true))))/\((True/\True)/\(((szW x1.ws = szW x1.ws)/\True)/\((RLe 1 1/\(RowsEq [.sl [.int .i64, .int .i64, .int .i64], .sl [.sl [.int .i64]], .sl [.sl [.int .i64]]] 1 (encG x1.g) (encG x1.g)))/\(((RLe x1.ts.length x1.ts.length)/\(RowsEq [.int .i64] x1.ts.length (encL encI x1.ts) (encL encI x1.ts)))/\(((RLe x1.us.length x1.us.length)/\(RowsEq [.int .i64, .int .i64, .int .i64, .int .i64, .int .i64, .int .i64, .int .i64, .int .i64, .int .i64, .int .i64] x1.us.length (encL encU x1.us) (encL encU x1.us)))/\(((RLe (szW x1.ws) (szW x1.ws))/\(RowsEq [.int .u64] (szW x1.ws) (encL encW x1.ws) (encL encW x1.ws)))/\True)))))))))))))))))))/\((decide ((distG x3.g x3.ts (freeL x3.us) true).getD (0 + Int.toNat ((nodesW x4.g.n x4.ws).getD (0 + Int.toNat (x6 : Int)) default)) default <= x1.t) = false)-> ((((-9223372036854775808 : Int) <= (x6 : Int) + 1)/\((x6 : Int) + 1 <= (9223372036854775807 : Int)))/\(∃ x15 : Nat, (((nodesW x1.g.n x1.ws).length - x15 < (nodesW x1.g.n x1.ws).length - x6)/\((x15 <= (nodesW x1.g.n x1.ws).length)/\((((x6 : Int) + 1 = (x15 : Int))/\((0=0/\((wAt x1.g x1.ts x1.us x1.ws x1.t x6).length = (wAt x1.g x1.ts x1.us x1.ws x1.t x15).length))/\(((↑(nodesW x4.g.n x4.ws).length : Int) = (↑(nodesW x4.g.n x4.ws).length : Int))/\((0=0/\((nodesW x4.g.n x4.ws).length = (nodesW x4.g.n x4.ws).length))/\(((szW x1.ws = szW x1.ws)/\True)/\((0=0 /\ 0=0)/\((0=0 /\ x3.g.n = x3.g.n)/\((0=0 /\ x3.g.n = x3.g.n)/\((0=0 /\ x1.us.length = x1.us.length)/\((0=0 /\ x1.ts.length = x1.ts.length)/\((0=0 /\ 0=0)/\((0=0 /\ 0=0)/\((0=0 /\ 0=0)/\((0=0 /\ 0=0)/\((0=0 /\ x1.ts.length = x1.ts.length)/\((0=0 /\ x1.us.length = x1.us.length)/\(((szW x1.ws = szW x1.ws)/\True)/\(x1.t = x1.t/\True))))))))))))))))))/\(((RLe (wAt x1.g x1.ts x1.us x1.ws x1.t x15).length (wAt x1.g x1.ts x1.us x1.ws x1.t x6).length)/\(RowsEq [.int .i64] (wAt x1.g x1.ts x1.us x1.ws x1.t x15).length (encL encI (wAt x1.g x1.ts x1.us x1.ws x1.t x6)) (encL encI (wAt x1.g x1.ts x1.us x1.ws x1.t x15))))/\(((RLe (nodesW x4.g.n x4.ws).length (nodesW x4.g.n x4.ws).length)/\(RowsEq [.int .i64] (nodesW x4.g.n x4.ws).length (encL encI (nodesW x4.g.n x4.ws)) (encL encI (nodesW x4.g.n x4.ws))))/\(((RLe x3.g.n x3.g.n)/\(RowsEq [.int .i64] x3.g.n (encL encI (distG x3.g x3.ts (freeL x3.us) true)) (encL encI (distG x3.g x3.ts (freeL x3.us) true))))/\((True/\True)/\(((szW x1.ws = szW x1.ws)/\True)/\((RLe 1 1/\(RowsEq [.sl [.int .i64, .int .i64, .int .i64], .sl [.sl [.int .i64]], .sl [.sl [.int .i64]]] 1 (encG x1.g) (encG x1.g)))/\(((RLe x1.ts.length x1.ts.length)/\(RowsEq [.int .i64] x1.ts.length (encL encI x1.ts) (encL encI x1.ts)))/\(((RLe x1.us.length x1.us.length)/\(RowsEq [.int .i64, .int .i64, .int .i64, .int .i64, .int .i64, .int .i64, .int .i64, .int .i64, .int .i64, .int .i64] x1.us.length (encL encU x1.us) (encL encU x1.us)))/\(((RLe (szW x1.ws) (szW x1.ws))/\(RowsEq [.int .u64] (szW x1.ws) (encL encW x1.ws) (encL encW x1.ws)))/\True)))))))))))))))))))))/\((decide ((x6 : Int) < (↑(nodesW x4.g.n x4.ws).length : Int)) = false)-> (∃ x17 : List Int, ((x17.length <= (1048576 : Nat))/\(((0=0/\((wAt x1.g x1.ts x1.us x1.ws x1.t x6).length = x17.length))/\True)/\((((RLe x17.length (wAt x1.g x1.ts x1.us x1.ws x1.t x6).length)/\(RowsEq [.int .i64] x17.length (encL encI (wAt x1.g x1.ts x1.us x1.ws x1.t x6)) (encL encI x17)))/\True)/\(((szW (ofW x17 x17.length) = szW (ofW (withinW x1.g x1.ts x1.us x1.ws x1.t) (withinW x1.g x1.ts x1.us x1.ws x1.t).length))/\True)/\(((RLe (szW (ofW (withinW x1.g x1.ts x1.us x1.ws x1.t) (withinW x1.g x1.ts x1.us x1.ws x1.t).length)) (szW (ofW x17 x17.length)))/\(RowsEq [.int .u64] (szW (ofW (withinW x1.g x1.ts x1.us x1.ws x1.t) (withinW x1.g x1.ts x1.us x1.ws x1.t).length)) (encL encW (ofW x17 x17.length)) (encL encW (ofW (withinW x1.g x1.ts x1.us x1.ws x1.t) (withinW x1.g x1.ts x1.us x1.ws x1.t).length))))/\True))))))))))))))))))))))) = (Keeps cfgK3 Tryd.f24 cwithinC cwithinI) by kernel_rfl) (fun x1 => fun h2 => ⟨({ g := YX.g x1, ts := YX.ts x1, us := YX.us x1, of := @List.nil Int : UX }),
(by (try dsimp only at *); exact h2.u),
⟨⟨rfl,rfl⟩,
⟨rfl,rfl⟩,
⟨rfl,rfl⟩,trivial⟩,
⟨⟨⟨Nat.le_refl _⟩,RowsEq.rfl'⟩,
⟨⟨Nat.le_refl _⟩,RowsEq.rfl'⟩,
⟨⟨Nat.le_refl _⟩,RowsEq.rfl'⟩,trivial⟩,
({ g := YX.g x1, ws := YX.ws x1 : GWX }),
(by (try dsimp only at *); exact h2.g),
⟨⟨rfl,rfl⟩,
⟨rfl,trivial⟩,trivial⟩,
⟨⟨⟨Nat.le_refl _⟩,RowsEq.rfl'⟩,
⟨⟨Nat.le_refl _⟩,RowsEq.rfl'⟩,trivial⟩,
((0 : Nat)),
⟨(by (try dsimp only at *); omega),
⟨(by (try dsimp only at *); omega),
⟨trivial,rfl,
(by (try dsimp only at *); rfl)⟩,rfl,
⟨rfl,rfl⟩,
⟨rfl,trivial⟩,
⟨rfl,rfl⟩,
⟨rfl,rfl⟩,
⟨rfl,rfl⟩,
⟨rfl,rfl⟩,
⟨rfl,rfl⟩,
⟨rfl,rfl⟩,
⟨rfl,rfl⟩,
⟨rfl,rfl⟩,
⟨rfl,rfl⟩,
⟨rfl,rfl⟩,
⟨rfl,rfl⟩,
⟨rfl,trivial⟩,rfl,trivial⟩,
(by (try dsimp only at *); rfl),
⟨⟨Nat.le_refl _⟩,RowsEq.rfl'⟩,
⟨⟨Nat.le_refl _⟩,RowsEq.rfl'⟩,
⟨trivial,trivial⟩,
⟨rfl,trivial⟩,
⟨⟨Nat.le_refl _⟩,RowsEq.rfl'⟩,
⟨⟨Nat.le_refl _⟩,RowsEq.rfl'⟩,
⟨⟨Nat.le_refl _⟩,RowsEq.rfl'⟩,
⟨⟨Nat.le_refl _⟩,RowsEq.rfl'⟩,trivial⟩,
fun x6 => fun h7 => ⟨fun g8 => have h8 := of_decide_eq_true g8; ⟨⟨(by (try dsimp only at *); omega),
(by (try dsimp only at *); omega)⟩,
(by (try dsimp only at *); omega),
⟨(by (try dsimp only at *); ((try simp only [Nat.zero_add, Int.toNat_natCast] at *); have := nodesW_at (n := x1.g.n) (ws := x1.ws) (k := x6) (by omega); omega)),
(by (try dsimp only at *); ((try simp only [Nat.zero_add, Int.toNat_natCast] at *); have := nodesW_at (n := x1.g.n) (ws := x1.ws) (k := x6) (by omega); omega))⟩,
(by (try dsimp only at *); ((try simp only [Nat.zero_add, Int.toNat_natCast] at *); have := nodesW_at (n := x1.g.n) (ws := x1.ws) (k := x6) (by omega); omega)),
fun g9 => have h9 := of_decide_eq_true g9; ⟨⟨(by (try dsimp only at *); ((try simp only [Nat.zero_add, Int.toNat_natCast] at *); have := nodesW_at (n := x1.g.n) (ws := x1.ws) (k := x6) (by omega); omega)),
(by (try dsimp only at *); ((try simp only [Nat.zero_add, Int.toNat_natCast] at *); have := nodesW_at (n := x1.g.n) (ws := x1.ws) (k := x6) (by omega); omega))⟩,
(by (try dsimp only at *); ((try simp only [Nat.zero_add, Int.toNat_natCast] at *); have := nodesW_at (n := x1.g.n) (ws := x1.ws) (k := x6) (by omega); omega)),
fun g10 => have h10 := of_decide_eq_true g10; ⟨⟨⟨trivial,trivial⟩,trivial⟩,
⟨rfl,
(by (try dsimp only at *); omega),
(by (try dsimp only at *); omega),
(by (try dsimp only at *); (have := wAt_len x1.g x1.ts x1.us x1.ws x1.t x6; omega))⟩,
⟨(by (try dsimp only at *); omega),
(by (try dsimp only at *); (have := nodesW_len x1.g.n x1.ws; (try simp only at *); omega))⟩,
(x6 + (1 : Nat)),
(by (try dsimp only at *); omega),
(by (try dsimp only at *); omega),
⟨(by (try dsimp only at *); omega),
⟨rfl,
(by (try dsimp only at *); (((try simp only [Nat.zero_add, Int.toNat_natCast] at *); have e := (w_yes h2 h8 h9 h10); first | (rw [e]; done) | (rw [e]; rfl) | (rw [e]; exact RowsEq.rfl') | (rw [e]; exact pushL_rows) | (simp only [e, List.length_append, List.length_singleton]; done) | (simp only [e, List.length_append, List.length_singleton]; omega))))⟩,rfl,
⟨rfl,rfl⟩,
⟨rfl,trivial⟩,
⟨rfl,rfl⟩,
⟨rfl,rfl⟩,
⟨rfl,rfl⟩,
⟨rfl,rfl⟩,
⟨rfl,rfl⟩,
⟨rfl,rfl⟩,
⟨rfl,rfl⟩,
⟨rfl,rfl⟩,
⟨rfl,rfl⟩,
⟨rfl,rfl⟩,
⟨rfl,rfl⟩,
⟨rfl,trivial⟩,rfl,trivial⟩,
⟨⟨(by (try dsimp only at *); (((try simp only [Nat.zero_add, Int.toNat_natCast] at *); have e := (w_yes h2 h8 h9 h10); first | (rw [e]; done) | (rw [e]; rfl) | (rw [e]; exact RowsEq.rfl') | (rw [e]; exact pushL_rows) | (simp only [e, List.length_append, List.length_singleton]; done) | (simp only [e, List.length_append, List.length_singleton]; omega))))⟩,
(by (try dsimp only at *); (((try simp only [Nat.zero_add, Int.toNat_natCast] at *); have e := (w_yes h2 h8 h9 h10); first | (rw [e]; done) | (rw [e]; rfl) | (rw [e]; exact RowsEq.rfl') | (rw [e]; exact pushL_rows) | (simp only [e, List.length_append, List.length_singleton]; done) | (simp only [e, List.length_append, List.length_singleton]; omega))))⟩,
⟨⟨Nat.le_refl _⟩,RowsEq.rfl'⟩,
⟨⟨Nat.le_refl _⟩,RowsEq.rfl'⟩,
⟨trivial,trivial⟩,
⟨rfl,trivial⟩,
⟨⟨Nat.le_refl _⟩,RowsEq.rfl'⟩,
⟨⟨Nat.le_refl _⟩,RowsEq.rfl'⟩,
⟨⟨Nat.le_refl _⟩,RowsEq.rfl'⟩,
⟨⟨Nat.le_refl _⟩,RowsEq.rfl'⟩,trivial⟩,
fun g12 => have h12 := of_decide_eq_false g12; ⟨⟨(by (try dsimp only at *); omega),
(by (try dsimp only at *); (have := nodesW_len x1.g.n x1.ws; (try simp only at *); omega))⟩,
(x6 + (1 : Nat)),
(by (try dsimp only at *); omega),
(by (try dsimp only at *); omega),
⟨(by (try dsimp only at *); omega),
⟨rfl,
(by (try dsimp only at *); (((try simp only [Nat.zero_add, Int.toNat_natCast] at *); have e := (w_no2 h8 h12); first | (rw [e]; done) | (rw [e]; rfl) | (rw [e]; exact RowsEq.rfl') | (rw [e]; exact pushL_rows) | (simp only [e, List.length_append, List.length_singleton]; done) | (simp only [e, List.length_append, List.length_singleton]; omega))))⟩,rfl,
⟨rfl,rfl⟩,
⟨rfl,trivial⟩,
⟨rfl,rfl⟩,
⟨rfl,rfl⟩,
⟨rfl,rfl⟩,
⟨rfl,rfl⟩,
⟨rfl,rfl⟩,
⟨rfl,rfl⟩,
⟨rfl,rfl⟩,
⟨rfl,rfl⟩,
⟨rfl,rfl⟩,
⟨rfl,rfl⟩,
⟨rfl,rfl⟩,
⟨rfl,trivial⟩,rfl,trivial⟩,
⟨⟨(by (try dsimp only at *); (((try simp only [Nat.zero_add, Int.toNat_natCast] at *); have e := (w_no2 h8 h12); first | (rw [e]; done) | (rw [e]; rfl) | (rw [e]; exact RowsEq.rfl') | (rw [e]; exact pushL_rows) | (simp only [e, List.length_append, List.length_singleton]; done) | (simp only [e, List.length_append, List.length_singleton]; omega))))⟩,
(by (try dsimp only at *); (((try simp only [Nat.zero_add, Int.toNat_natCast] at *); have e := (w_no2 h8 h12); first | (rw [e]; done) | (rw [e]; rfl) | (rw [e]; exact RowsEq.rfl') | (rw [e]; exact pushL_rows) | (simp only [e, List.length_append, List.length_singleton]; done) | (simp only [e, List.length_append, List.length_singleton]; omega))))⟩,
⟨⟨Nat.le_refl _⟩,RowsEq.rfl'⟩,
⟨⟨Nat.le_refl _⟩,RowsEq.rfl'⟩,
⟨trivial,trivial⟩,
⟨rfl,trivial⟩,
⟨⟨Nat.le_refl _⟩,RowsEq.rfl'⟩,
⟨⟨Nat.le_refl _⟩,RowsEq.rfl'⟩,
⟨⟨Nat.le_refl _⟩,RowsEq.rfl'⟩,
⟨⟨Nat.le_refl _⟩,RowsEq.rfl'⟩,trivial⟩⟩,
fun g14 => have h14 := of_decide_eq_false g14; ⟨⟨(by (try dsimp only at *); omega),
(by (try dsimp only at *); (have := nodesW_len x1.g.n x1.ws; (try simp only at *); omega))⟩,
(x6 + (1 : Nat)),
(by (try dsimp only at *); omega),
(by (try dsimp only at *); omega),
⟨(by (try dsimp only at *); omega),
⟨rfl,
(by (try dsimp only at *); (((try simp only [Nat.zero_add, Int.toNat_natCast] at *); have e := (w_no1 h8 h14); first | (rw [e]; done) | (rw [e]; rfl) | (rw [e]; exact RowsEq.rfl') | (rw [e]; exact pushL_rows) | (simp only [e, List.length_append, List.length_singleton]; done) | (simp only [e, List.length_append, List.length_singleton]; omega))))⟩,rfl,
⟨rfl,rfl⟩,
⟨rfl,trivial⟩,
⟨rfl,rfl⟩,
⟨rfl,rfl⟩,
⟨rfl,rfl⟩,
⟨rfl,rfl⟩,
⟨rfl,rfl⟩,
⟨rfl,rfl⟩,
⟨rfl,rfl⟩,
⟨rfl,rfl⟩,
⟨rfl,rfl⟩,
⟨rfl,rfl⟩,
⟨rfl,rfl⟩,
⟨rfl,trivial⟩,rfl,trivial⟩,
⟨⟨(by (try dsimp only at *); (((try simp only [Nat.zero_add, Int.toNat_natCast] at *); have e := (w_no1 h8 h14); first | (rw [e]; done) | (rw [e]; rfl) | (rw [e]; exact RowsEq.rfl') | (rw [e]; exact pushL_rows) | (simp only [e, List.length_append, List.length_singleton]; done) | (simp only [e, List.length_append, List.length_singleton]; omega))))⟩,
(by (try dsimp only at *); (((try simp only [Nat.zero_add, Int.toNat_natCast] at *); have e := (w_no1 h8 h14); first | (rw [e]; done) | (rw [e]; rfl) | (rw [e]; exact RowsEq.rfl') | (rw [e]; exact pushL_rows) | (simp only [e, List.length_append, List.length_singleton]; done) | (simp only [e, List.length_append, List.length_singleton]; omega))))⟩,
⟨⟨Nat.le_refl _⟩,RowsEq.rfl'⟩,
⟨⟨Nat.le_refl _⟩,RowsEq.rfl'⟩,
⟨trivial,trivial⟩,
⟨rfl,trivial⟩,
⟨⟨Nat.le_refl _⟩,RowsEq.rfl'⟩,
⟨⟨Nat.le_refl _⟩,RowsEq.rfl'⟩,
⟨⟨Nat.le_refl _⟩,RowsEq.rfl'⟩,
⟨⟨Nat.le_refl _⟩,RowsEq.rfl'⟩,trivial⟩⟩,
fun g16 => have h16 := of_decide_eq_false g16; ⟨(wAt (YX.g x1) (YX.ts x1) (YX.us x1) (YX.ws x1) (YX.t x1) x6),
(by (try dsimp only at *); (have := wAt_len x1.g x1.ts x1.us x1.ws x1.t x6; omega)),
⟨⟨rfl,rfl⟩,trivial⟩,
⟨⟨⟨Nat.le_refl _⟩,RowsEq.rfl'⟩,trivial⟩,
⟨(by (try dsimp only at *); (rw [w_end h7 h16]; done)),trivial⟩,
⟨⟨(by (try dsimp only at *); (rw [w_end h7 h16]; exact Nat.le_refl _))⟩,
(by (try dsimp only at *); (rw [w_end h7 h16]; exact RowsEq.rfl'))⟩,trivial⟩⟩⟩)
theorem cwithin_good : Good Tryd.prog 24 cwithinC /\ FnOk Tryd.prog 24 := good_of tok conK3 (fn := Tryd.f24) rfl (by decide +kernel) (fun _ => rfl) cwithin_keeps
end Go.Sym