import Derived.Test.YtpommejalaechaaDoorR3
import Derived.Test.YtpommejalaechaaDoorXD
namespace Go.Sym
set_option linter.unusedVariables false
set_option linter.unusedSimpArgs false
open Go.Proofs
set_option maxRecDepth 100000
set_option maxHeartbeats 4000000
def infAt (n k : Nat) : List Int := (List.range n).map fun v => if v < k then INF else 0
theorem infAt_len (n k : Nat) : (infAt n k).length = n := by simp [infAt]
theorem getD_map_range {n v : Nat} {f : Nat -> Int} (h : v < n) : ((List.range n).map f).getD v default = f v := by
 rw [List.getD_eq_getElem?_getD, List.getElem?_map, List.getElem?_range h]; rfl
theorem ext_at {a b : List Int} {n : Nat} (ha : a.length = n) (hb : b.length = n) (h : ∀ v, v < n -> a.getD v default = b.getD v default) : a = b :=
 list_ext0 (by omega) (fun v hv => h v (by omega))
theorem infAt_zero (n : Nat) : infAt n 0 = List.replicate n 0 := by
 refine ext_at (infAt_len _ _) (by simp) fun v hv => ?_
 unfold infAt; rw [getD_map_range hv, if_neg (by omega), List.getD_eq_getElem?_getD, List.getElem?_replicate, if_pos hv]; rfl
theorem infAt_succ {n k : Nat} (hk : k < n) : infAt n (k + 1) = (infAt n k).set k 4611686018427387904 := by
 refine ext_at (infAt_len _ _) (by simp [infAt_len]) fun v hv => ?_
 have h := at0_set (d := infAt n k) (v := k) (u := v) (x := 4611686018427387904)
 unfold at0 at h; rw [h]
 unfold infAt
 rw [getD_map_range hv, getD_map_range hv, List.length_map, List.length_range]
 by_cases e : k = v
 ·subst e; rw [if_pos (by omega), if_pos ⟨rfl, hk⟩]; rfl
 ·rw [if_neg (fun q : k = v /\ _ => e q.1)]
  by_cases e2 : v < k
  ·rw [if_pos (by omega), if_pos e2]
  ·rw [if_neg (by omega), if_neg e2]
theorem infAt_full (n : Nat) (src : List Int) : infAt n n = initL n (isSrc (src.take 0)) := by
 refine ext_at (infAt_len _ _) (initL_len _ _) fun v hv => ?_
 unfold infAt initL; rw [getD_map_range hv, getD_map_range hv, if_pos hv]; rfl
theorem isSrc_succ {src : List Int} {k : Nat} (hk : k < src.length) (v : Nat) : isSrc (src.take (k + 1)) v = (isSrc (src.take k) v || src.getD k default == (v : Int)) := by
 unfold isSrc
 rw [take_succ_getD (d := default) hk, List.any_append, List.any_cons, List.any_nil, Bool.or_false]
theorem init_out {n k : Nat} {src : List Int} (hk : k < src.length) (h : ¬ (0 <= src.getD k default /\ src.getD k default < n)) : initL n (isSrc (src.take (k + 1))) = initL n (isSrc (src.take k)) := by
 refine ext_at (initL_len _ _) (initL_len _ _) fun v hv => ?_
 unfold initL; rw [getD_map_range hv, getD_map_range hv, isSrc_succ hk]
 have : (src.getD k default == (v : Int)) = false := by rw [beq_eq_false_iff_ne]; omega
 rw [this, Bool.or_false]
theorem init_in {n k : Nat} {src : List Int} (hk : k < src.length) (h : 0 <= src.getD k default /\ src.getD k default < n) : initL n (isSrc (src.take (k + 1))) = (initL n (isSrc (src.take k))).set (src.getD k default).toNat 0 := by
 refine ext_at (initL_len _ _) (by simp [initL_len]) fun v hv => ?_
 have h2 := at0_set (d := initL n (isSrc (src.take k))) (v := (src.getD k default).toNat) (u := v) (x := 0)
 unfold at0 at h2; rw [h2, initL_len]
 unfold initL; rw [getD_map_range hv, getD_map_range hv, isSrc_succ hk]
 by_cases e : (src.getD k default).toNat = v
 ·have : (src.getD k default == (v : Int)) = true := by rw [beq_iff_eq]; omega
  rw [this, Bool.or_true, if_pos (show _ /\ _ from ⟨e, hv⟩)]; rfl
 ·have : (src.getD k default == (v : Int)) = false := by rw [beq_eq_false_iff_ne]; omega
  rw [this, Bool.or_false, if_neg (fun q : _ /\ _ => e q.1)]
def netF (x : FX) : WNet := netG x.g (ttL x.ts x.g.es.length) true
def qfromC : CT where
 X := FX
 pre := FXok
 args := fun x => [.agg [.i .i64 x.g.n, .sl 100000 0 x.g.es.length], .sl 100001 0 x.ts.length, .sl 100002 0 x.src.length]
 g0 := fun x => [(100000, .rows .bor kE x.g.es.length (encL encE x.g.es)), (100001, .rows .bor k1 x.ts.length (encL encI x.ts)), (100002, .rows .bor k1 x.src.length (encL encI x.src))]
 res := fun x => .sl 1 0 x.g.n
 g1 := fun x => [(1, .rows .own k1 x.g.n (encL encI (distG x.g x.ts x.src true)))]
def roA (x : FX) (k : Nat) : List Int := rounds (netF x) (initL x.g.n (isSrc x.src)) k
def rdA (x : FX) (k j : Nat) : List Int := roundAt (netF x) (roA x k) j
def encRx (x : FX) (d : List Int) (j : Nat) : Bool := decide (tt x.ts j < 4611686018427387904 /\ d.getD (x.g.es.getD j default).f.toNat default < 4611686018427387904 /\ d.getD (x.g.es.getD j default).f.toNat default + tt x.ts j < d.getD (x.g.es.getD j default).t.toNat default)
def qfromI (x : FX) (id : Nat) : Option Inv := match id with
 | 0 => some { X := Nat, ok := fun k => k <= x.g.n, fr := fun k => [(8, .i .i64 k), (7, .sl 61 0 x.g.n)], hp := fun k => [(61, .rows .own k1 x.g.n (encL encI (infAt x.g.n k)))], me := fun k => x.g.n - k }
 | 2 => some { X := Nat, ok := fun k => k <= x.src.length, fr := fun k => [(9, .i .i64 k), (7, .sl 61 0 x.g.n)], hp := fun k => [(61, .rows .own k1 x.g.n (encL encI (initL x.g.n (isSrc (x.src.take k)))))], me := fun k => x.src.length - k,
               inn := fun k id => match id with
                | 100046 => some (cutB 46 (decide (0 <= x.src.getD k default /\ x.src.getD k default < x.g.n)))
                | _ => none }
 | 4 => some { X := Nat, ok := fun k => k <= x.g.n, fr := fun k => [(10, .i .i64 k), (7, .sl 61 0 x.g.n)], hp := fun k => [(61, .rows .own k1 x.g.n (encL encI (roA x k)))], me := fun k => x.g.n - k,
               inn := fun k id => match id with
                | 6 => some { X := Nat, ok := fun j => j <= x.g.es.length, fr := fun j => [(11, .i .i64 j), (7, .sl 61 0 x.g.n)],
                              hp := fun j => [(61, .rows .own k1 x.g.n (encL encI (rdA x k j)))], me := fun j => x.g.es.length - j,
                              inn := fun j id => match id with
                               | 100100 => some (cutB 100 (encRx x (rdA x k j) j))
                               | _ => none }
                | _ => none }
 | _ => none
def cfgQF : Cfg := ⟨T, [], [(50, .one neverC), (38, .one travelC)], noInv, 50, {}⟩
theorem conQF : ConOk Tryd.prog cfgQF := ConL.ok (.cons (ConL.one never_good) (.cons (ConL.one time_good) .nil))
theorem netF_ok {x : FX} (h : FXok x) : (netF x).Ok := netG_ok h.g (wsOk_tt _ _) true
theorem netF_rl {x : FX} (h : FXok x) (k : Nat) {j : Nat} (hj : j <= x.g.es.length) : Rlx (netF x) (fun v => isSrc x.src v = true) (roundAt (netF x) (rounds (netF x) (initL x.g.n (isSrc x.src)) k) j) :=
 ((initL_rlx (N := netF x) (isSrc x.src)).rounds (netF_ok h) k).roundAt (netF_ok h) j hj
theorem relax_yes {x : FX} {d : List Int} {j : Nat} (hj : (j : Int) < x.g.es.length) (h1 : tt x.ts j < 4611686018427387904) (h2 : d.getD (x.g.es.getD j default).f.toNat default < 4611686018427387904)
  (h3 : d.getD (x.g.es.getD j default).f.toNat default + tt x.ts j < d.getD (x.g.es.getD j default).t.toNat default) :
  relaxE (netF x) d j = d.set (x.g.es.getD j default).t.toNat (d.getD (x.g.es.getD j default).f.toNat default + tt x.ts j) := by
 have e : (netF x).w j = tt x.ts j := ttL_at (by omega)
 unfold relaxE
 rw [e]
 exact if_pos ⟨h1, h2, h3⟩
theorem relax_no {x : FX} {d : List Int} {j : Nat} (hj : (j : Int) < x.g.es.length) (h : ¬ (tt x.ts j < 4611686018427387904 /\ d.getD (x.g.es.getD j default).f.toNat default < 4611686018427387904 /\
  d.getD (x.g.es.getD j default).f.toNat default + tt x.ts j < d.getD (x.g.es.getD j default).t.toNat default)) : relaxE (netF x) d j = d := by
 have e : (netF x).w j = tt x.ts j := ttL_at (by omega)
 unfold relaxE
 rw [e]
 exact if_neg h
theorem src_all {x : FX} {k : Nat} (h : k <= x.src.length) (h2 : ¬ (k : Int) < x.src.length) : x.src.take k = x.src := List.take_of_length_le (by omega)
theorem nn_at {x : FX} (h : FXok x) (k : Nat) {j v : Nat} (hj : j <= x.g.es.length) (hv : v < x.g.n) : 0 <= (roundAt (netF x) (rounds (netF x) (initL x.g.n (isSrc x.src)) k) j).getD v default := (netF_rl h k hj).nn v hv
theorem rdA_succ (x : FX) (k j : Nat) : rdA x k (j + 1) = relaxE (netF x) (rdA x k j) j := roundAt_succ _ _ _
set_option maxRecDepth 100000 in
theorem qfrom_keeps : Keeps cfgQF Tryd.f30 qfromC qfromI := Eq.mp (show ((∀ x1 : FX, ((FXok x1)-> ((((0 : Int) <= (x1.g.n : Int))/\(((x1.g.n : Int) <= (x1.g.n : Int))/\((x1.g.n : Int) <= (↑(1073741824 : Nat) : Int))))/\(∃ x3 : Nat, (((x3 <= x1.g.n)/\(((0 = (x3 : Int))/\((0=0/\(Int.toNat (x1.g.n : Int) = x1.g.n))/\(((x1.g.n : Int) = (x1.g.n : Int))/\((0=0 /\ 0=0)/\(True/\((0=0 /\ 0=0)/\((((x1.g.n : Int) = (x1.g.n : Int))/\((0=0 /\ x1.g.es.length = x1.g.es.length)/\True))/\((0=0 /\ x1.ts.length = x1.ts.length)/\((0=0 /\ x1.src.length = x1.src.length)/\True)))))))))/\(((RLe x1.g.n (Int.toNat (x1.g.n : Int)))/\(RowsEq [.int .i64] x1.g.n (fun (x j : Nat) => zRow [.int .i64] j) (encL encI (infAt x1.g.n x3))))/\((((x1.g.n : Int) = (x1.g.n : Int))/\((0=0 /\ x1.g.es.length = x1.g.es.length)/\True))/\(((RLe x1.g.es.length x1.g.es.length)/\(RowsEq [.int .i64, .int .i64, .int .i64] x1.g.es.length (encL encE x1.g.es) (encL encE x1.g.es)))/\(((RLe x1.ts.length x1.ts.length)/\(RI x1.ts.length x1.ts x1.ts))/\(((RLe x1.src.length x1.src.length)/\(RI x1.src.length x1.src x1.src))/\True)))))))/\(∀ x4 : Nat, ((x4 <= x1.g.n)-> (((decide ((x4 : Int) < (x1.g.n : Int)) = true)-> (∃ x7 : Unit, (True/\(True/\(True/\((((0 : Int) <= (x4 : Int))/\((x4 : Int) < (x1.g.n : Int)))/\(((0 + Int.toNat (x4 : Int) < x1.g.n)/\(True/\True))/\((((-9223372036854775808 : Int) <= (x4 : Int) + 1)/\((x4 : Int) + 1 <= (9223372036854775807 : Int)))/\(∃ x8 : Nat, ((x1.g.n - x8 < x1.g.n - x4)/\((x8 <= x1.g.n)/\((((x4 : Int) + 1 = (x8 : Int))/\((0=0 /\ x1.g.n = x1.g.n)/\(((x1.g.n : Int) = (x1.g.n : Int))/\((0=0 /\ 0=0)/\(True/\((0=0 /\ 0=0)/\((((x1.g.n : Int) = (x1.g.n : Int))/\((0=0 /\ x1.g.es.length = x1.g.es.length)/\True))/\((0=0 /\ x1.ts.length = x1.ts.length)/\((0=0 /\ x1.src.length = x1.src.length)/\True)))))))))/\(((RLe x1.g.n x1.g.n)/\(RowsEq [.int .i64] x1.g.n (setRow (encL encI (infAt x1.g.n x4)) (0 + Int.toNat (x4 : Int)) 0 (D.i 4611686018427387904 :: @List.nil D)) (encL encI (infAt x1.g.n x8))))/\((((x1.g.n : Int) = (x1.g.n : Int))/\((0=0 /\ x1.g.es.length = x1.g.es.length)/\True))/\(((RLe x1.g.es.length x1.g.es.length)/\(RowsEq [.int .i64, .int .i64, .int .i64] x1.g.es.length (encL encE x1.g.es) (encL encE x1.g.es)))/\(((RLe x1.ts.length x1.ts.length)/\(RI x1.ts.length x1.ts x1.ts))/\(((RLe x1.src.length x1.src.length)/\(RI x1.src.length x1.src x1.src))/\True)))))))))))))))))/\((decide ((x4 : Int) < (x1.g.n : Int)) = false)-> (∃ x10 : Nat, (((x10 <= x1.src.length)/\(((0 = (x10 : Int))/\((0=0 /\ x1.g.n = x1.g.n)/\((decide ((x4 : Int) < (x1.g.n : Int)) = decide ((x4 : Int) < (x1.g.n : Int)))/\(((x1.g.n : Int) = (x1.g.n : Int))/\((0=0 /\ 0=0)/\(((x4 : Int) = (x4 : Int))/\(((x4 : Int) = (x4 : Int))/\(((x1.g.n : Int) = (x1.g.n : Int))/\((0=0 /\ 0=0)/\(True/\((0=0 /\ 0=0)/\((((x1.g.n : Int) = (x1.g.n : Int))/\((0=0 /\ x1.g.es.length = x1.g.es.length)/\True))/\((0=0 /\ x1.ts.length = x1.ts.length)/\((0=0 /\ x1.src.length = x1.src.length)/\True))))))))))))))/\(((RLe x1.g.n x1.g.n)/\(RI x1.g.n (infAt x1.g.n x4) (initL x1.g.n (isSrc (List.take x10 x1.src)))))/\((((x1.g.n : Int) = (x1.g.n : Int))/\((0=0 /\ x1.g.es.length = x1.g.es.length)/\True))/\(((RLe x1.g.es.length x1.g.es.length)/\(RowsEq [.int .i64, .int .i64, .int .i64] x1.g.es.length (encL encE x1.g.es) (encL encE x1.g.es)))/\(((RLe x1.ts.length x1.ts.length)/\(RI x1.ts.length x1.ts x1.ts))/\(((RLe x1.src.length x1.src.length)/\(RI x1.src.length x1.src x1.src))/\True)))))))/\(∀ x11 : Nat, ((x11 <= x1.src.length)-> (((decide ((x11 : Int) < (x1.src.length : Int)) = true)-> (((((0 : Int) <= (x11 : Int))/\((x11 : Int) < (x1.src.length : Int)))/\((0 + Int.toNat (x11 : Int) < x1.src.length)/\(((decide ((0 : Int) <= x1.src.getD (0 + Int.toNat (x11 : Int)) default) = true)-> ((((0 : Int) <= (x11 : Int))/\((x11 : Int) < (x1.src.length : Int)))/\((0 + Int.toNat (x11 : Int) < x1.src.length)/\(∃ x15 : Unit, (True/\((decide (x1.src.getD (0 + Int.toNat (x11 : Int)) default < (x1.g.n : Int)) = decide ((0 : Int) <= x1.src.getD x11 default /\ x1.src.getD x11 default < (x1.g.n : Int)))/\True))))))/\((decide ((0 : Int) <= x1.src.getD (0 + Int.toNat (x11 : Int)) default) = false)-> (∃ x17 : Unit, (True/\((false = decide ((0 : Int) <= x1.src.getD x11 default /\ x1.src.getD x11 default < (x1.g.n : Int)))/\True)))))))/\(∀ x18 : Unit, (True -> (((decide ((0 : Int) <= x1.src.getD x11 default /\ x1.src.getD x11 default < (x1.g.n : Int)) = true)-> ((((0 : Int) <= (x11 : Int))/\((x11 : Int) < (x1.src.length : Int)))/\((0 + Int.toNat (x11 : Int) < x1.src.length)/\((((0 : Int) <= x1.src.getD (0 + Int.toNat (x11 : Int)) default)/\(x1.src.getD (0 + Int.toNat (x11 : Int)) default < (x1.g.n : Int)))/\(((0 + Int.toNat (x1.src.getD (0 + Int.toNat (x11 : Int)) default) < x1.g.n)/\(True/\True))/\((((-9223372036854775808 : Int) <= (x11 : Int) + 1)/\((x11 : Int) + 1 <= (9223372036854775807 : Int)))/\(∃ x21 : Nat, ((x1.src.length - x21 < x1.src.length - x11)/\((x21 <= x1.src.length)/\((((x11 : Int) + 1 = (x21 : Int))/\((0=0 /\ x1.g.n = x1.g.n)/\((decide ((x4 : Int) < (x1.g.n : Int)) = decide ((x4 : Int) < (x1.g.n : Int)))/\(((x1.g.n : Int) = (x1.g.n : Int))/\((0=0 /\ 0=0)/\(((x4 : Int) = (x4 : Int))/\(((x4 : Int) = (x4 : Int))/\(((x1.g.n : Int) = (x1.g.n : Int))/\((0=0 /\ 0=0)/\(True/\((0=0 /\ 0=0)/\((((x1.g.n : Int) = (x1.g.n : Int))/\((0=0 /\ x1.g.es.length = x1.g.es.length)/\True))/\((0=0 /\ x1.ts.length = x1.ts.length)/\((0=0 /\ x1.src.length = x1.src.length)/\True))))))))))))))/\(((RLe x1.g.n x1.g.n)/\(RowsEq [.int .i64] x1.g.n (setRow (encL encI (initL x1.g.n (isSrc (List.take x11 x1.src)))) (0 + Int.toNat (x1.src.getD (0 + Int.toNat (x11 : Int)) default)) 0 (D.i 0 :: @List.nil D)) (encL encI (initL x1.g.n (isSrc (List.take x21 x1.src))))))/\((((x1.g.n : Int) = (x1.g.n : Int))/\((0=0 /\ x1.g.es.length = x1.g.es.length)/\True))/\(((RLe x1.g.es.length x1.g.es.length)/\(RowsEq [.int .i64, .int .i64, .int .i64] x1.g.es.length (encL encE x1.g.es) (encL encE x1.g.es)))/\(((RLe x1.ts.length x1.ts.length)/\(RI x1.ts.length x1.ts x1.ts))/\(((RLe x1.src.length x1.src.length)/\(RI x1.src.length x1.src x1.src))/\True)))))))))))))))/\((decide ((0 : Int) <= x1.src.getD x11 default /\ x1.src.getD x11 default < (x1.g.n : Int)) = false)-> ((((-9223372036854775808 : Int) <= (x11 : Int) + 1)/\((x11 : Int) + 1 <= (9223372036854775807 : Int)))/\(∃ x23 : Nat, ((x1.src.length - x23 < x1.src.length - x11)/\((x23 <= x1.src.length)/\((((x11 : Int) + 1 = (x23 : Int))/\((0=0 /\ x1.g.n = x1.g.n)/\((decide ((x4 : Int) < (x1.g.n : Int)) = decide ((x4 : Int) < (x1.g.n : Int)))/\(((x1.g.n : Int) = (x1.g.n : Int))/\((0=0 /\ 0=0)/\(((x4 : Int) = (x4 : Int))/\(((x4 : Int) = (x4 : Int))/\(((x1.g.n : Int) = (x1.g.n : Int))/\((0=0 /\ 0=0)/\(True/\((0=0 /\ 0=0)/\((((x1.g.n : Int) = (x1.g.n : Int))/\((0=0 /\ x1.g.es.length = x1.g.es.length)/\True))/\((0=0 /\ x1.ts.length = x1.ts.length)/\((0=0 /\ x1.src.length = x1.src.length)/\True))))))))))))))/\(((RLe x1.g.n x1.g.n)/\(RI x1.g.n (initL x1.g.n (isSrc (List.take x11 x1.src))) (initL x1.g.n (isSrc (List.take x23 x1.src)))))/\((((x1.g.n : Int) = (x1.g.n : Int))/\((0=0 /\ x1.g.es.length = x1.g.es.length)/\True))/\(((RLe x1.g.es.length x1.g.es.length)/\(RowsEq [.int .i64, .int .i64, .int .i64] x1.g.es.length (encL encE x1.g.es) (encL encE x1.g.es)))/\(((RLe x1.ts.length x1.ts.length)/\(RI x1.ts.length x1.ts x1.ts))/\(((RLe x1.src.length x1.src.length)/\(RI x1.src.length x1.src x1.src))/\True))))))))))))))))/\((decide ((x11 : Int) < (x1.src.length : Int)) = false)-> (∃ x25 : Nat, (((x25 <= x1.g.n)/\(((0 = (x25 : Int))/\((0=0 /\ x1.g.n = x1.g.n)/\((decide ((x11 : Int) < (x1.src.length : Int)) = decide ((x11 : Int) < (x1.src.length : Int)))/\(((x1.src.length : Int) = (x1.src.length : Int))/\((0=0 /\ x1.src.length = x1.src.length)/\(((x11 : Int) = (x11 : Int))/\(((x11 : Int) = (x11 : Int))/\((decide ((x4 : Int) < (x1.g.n : Int)) = decide ((x4 : Int) < (x1.g.n : Int)))/\(((x1.g.n : Int) = (x1.g.n : Int))/\((0=0 /\ 0=0)/\(((x4 : Int) = (x4 : Int))/\(((x4 : Int) = (x4 : Int))/\(((x1.g.n : Int) = (x1.g.n : Int))/\((0=0 /\ 0=0)/\(True/\((0=0 /\ 0=0)/\((((x1.g.n : Int) = (x1.g.n : Int))/\((0=0 /\ x1.g.es.length = x1.g.es.length)/\True))/\((0=0 /\ x1.ts.length = x1.ts.length)/\((0=0 /\ x1.src.length = x1.src.length)/\True)))))))))))))))))))/\(((RLe x1.g.n x1.g.n)/\(RI x1.g.n (initL x1.g.n (isSrc (List.take x11 x1.src))) (roA x1 x25)))/\((((x1.g.n : Int) = (x1.g.n : Int))/\((0=0 /\ x1.g.es.length = x1.g.es.length)/\True))/\(((RLe x1.g.es.length x1.g.es.length)/\(RowsEq [.int .i64, .int .i64, .int .i64] x1.g.es.length (encL encE x1.g.es) (encL encE x1.g.es)))/\(((RLe x1.ts.length x1.ts.length)/\(RI x1.ts.length x1.ts x1.ts))/\(((RLe x1.src.length x1.src.length)/\(RI x1.src.length x1.src x1.src))/\True)))))))/\(∀ x26 : Nat, ((x26 <= x1.g.n)-> (((decide ((x26 : Int) < (x1.g.n : Int)) = true)-> (∃ x29 : Nat, (((x29 <= x1.g.es.length)/\(((0 = (x29 : Int))/\((0=0 /\ x1.g.n = x1.g.n)/\(((x26 : Int) = (x26 : Int))/\((decide ((x11 : Int) < (x1.src.length : Int)) = decide ((x11 : Int) < (x1.src.length : Int)))/\(((x1.src.length : Int) = (x1.src.length : Int))/\((0=0 /\ x1.src.length = x1.src.length)/\(((x11 : Int) = (x11 : Int))/\(((x11 : Int) = (x11 : Int))/\((decide ((x4 : Int) < (x1.g.n : Int)) = decide ((x4 : Int) < (x1.g.n : Int)))/\(((x1.g.n : Int) = (x1.g.n : Int))/\((0=0 /\ 0=0)/\(((x4 : Int) = (x4 : Int))/\(((x4 : Int) = (x4 : Int))/\(((x1.g.n : Int) = (x1.g.n : Int))/\((0=0 /\ 0=0)/\(True/\((0=0 /\ 0=0)/\((((x1.g.n : Int) = (x1.g.n : Int))/\((0=0 /\ x1.g.es.length = x1.g.es.length)/\True))/\((0=0 /\ x1.ts.length = x1.ts.length)/\((0=0 /\ x1.src.length = x1.src.length)/\True))))))))))))))))))))/\(((RLe x1.g.n x1.g.n)/\(RI x1.g.n (roA x1 x26) (rdA x1 x26 x29)))/\((((x1.g.n : Int) = (x1.g.n : Int))/\((0=0 /\ x1.g.es.length = x1.g.es.length)/\True))/\(((RLe x1.g.es.length x1.g.es.length)/\(RowsEq [.int .i64, .int .i64, .int .i64] x1.g.es.length (encL encE x1.g.es) (encL encE x1.g.es)))/\(((RLe x1.ts.length x1.ts.length)/\(RI x1.ts.length x1.ts x1.ts))/\(((RLe x1.src.length x1.src.length)/\(RI x1.src.length x1.src x1.src))/\True)))))))/\(∀ x30 : Nat, ((x30 <= x1.g.es.length)-> (((decide ((x30 : Int) < (x1.g.es.length : Int)) = true)-> ((((0 : Int) <= (x30 : Int))/\((x30 : Int) < (x1.g.es.length : Int)))/\((0 + Int.toNat (x30 : Int) < x1.g.es.length)/\(∃ x33 : TX, ((x33.i <= (1073741824 : Nat))/\(((0=0 /\ x1.ts.length = x33.ts.length)/\(((x30 : Int) = (x33.i : Int))/\True))/\((((RLe x33.ts.length x1.ts.length)/\(RI x33.ts.length x1.ts x33.ts))/\True)/\((∃ x34 : Unit, (True/\(True/\(True/\(((decide (tt x33.ts x33.i < (4611686018427387904 : Int)) = true)-> ((((0 : Int) <= (x1.g.es.getD (0 + Int.toNat (x30 : Int)) default).f)/\((x1.g.es.getD (0 + Int.toNat (x30 : Int)) default).f < (x1.g.n : Int)))/\((0 + Int.toNat (x1.g.es.getD (0 + Int.toNat (x30 : Int)) default).f < x1.g.n)/\(∃ x36 : Unit, (True/\(True/\(True/\(((decide ((rdA x1 x26 x30).getD (0 + Int.toNat (x1.g.es.getD (0 + Int.toNat (x30 : Int)) default).f) default < 4611686018427387904) = true)-> ((((0 : Int) <= (x1.g.es.getD (0 + Int.toNat (x30 : Int)) default).f)/\((x1.g.es.getD (0 + Int.toNat (x30 : Int)) default).f < (x1.g.n : Int)))/\((0 + Int.toNat (x1.g.es.getD (0 + Int.toNat (x30 : Int)) default).f < x1.g.n)/\((((-9223372036854775808 : Int) <= (rdA x1 x26 x30).getD (0 + Int.toNat (x1.g.es.getD (0 + Int.toNat (x30 : Int)) default).f) default + tt x33.ts x33.i)/\((rdA x1 x26 x30).getD (0 + Int.toNat (x1.g.es.getD (0 + Int.toNat (x30 : Int)) default).f) default + tt x33.ts x33.i <= (9223372036854775807 : Int)))/\((((0 : Int) <= (x1.g.es.getD (0 + Int.toNat (x30 : Int)) default).t)/\((x1.g.es.getD (0 + Int.toNat (x30 : Int)) default).t < (x1.g.n : Int)))/\((0 + Int.toNat (x1.g.es.getD (0 + Int.toNat (x30 : Int)) default).t < x1.g.n)/\(∃ x38 : Unit, (True/\((decide ((rdA x1 x26 x30).getD (0 + Int.toNat (x1.g.es.getD (0 + Int.toNat (x30 : Int)) default).f) default + tt x33.ts x33.i < (rdA x1 x26 x30).getD (0 + Int.toNat (x1.g.es.getD (0 + Int.toNat (x30 : Int)) default).t) default) = decide (tt x1.ts x30 < 4611686018427387904/\(rdA x1 x26 x30).getD (Int.toNat (x1.g.es.getD x30 default).f) default < 4611686018427387904/\(rdA x1 x26 x30).getD (Int.toNat (x1.g.es.getD x30 default).f) default + tt x1.ts x30 < (rdA x1 x26 x30).getD (Int.toNat (x1.g.es.getD x30 default).t) default))/\True)))))))))/\((decide ((rdA x1 x26 x30).getD (0 + Int.toNat (x1.g.es.getD (0 + Int.toNat (x30 : Int)) default).f) default < 4611686018427387904) = false)-> (∃ x40 : Unit, (True/\((false = decide (tt x1.ts x30 < 4611686018427387904/\(rdA x1 x26 x30).getD (Int.toNat (x1.g.es.getD x30 default).f) default < 4611686018427387904/\(rdA x1 x26 x30).getD (Int.toNat (x1.g.es.getD x30 default).f) default + tt x1.ts x30 < (rdA x1 x26 x30).getD (Int.toNat (x1.g.es.getD x30 default).t) default))/\True))))))))))))/\((decide (tt x33.ts x33.i < (4611686018427387904 : Int)) = false)-> (∃ x42 : Unit, (True/\((false = decide (tt x1.ts x30 < 4611686018427387904/\(rdA x1 x26 x30).getD (Int.toNat (x1.g.es.getD x30 default).f) default < 4611686018427387904/\(rdA x1 x26 x30).getD (Int.toNat (x1.g.es.getD x30 default).f) default + tt x1.ts x30 < (rdA x1 x26 x30).getD (Int.toNat (x1.g.es.getD x30 default).t) default))/\True)))))))))/\(∀ x43 : Unit, (True -> (((decide (tt x1.ts x30 < 4611686018427387904/\(rdA x1 x26 x30).getD (Int.toNat (x1.g.es.getD x30 default).f) default < 4611686018427387904/\(rdA x1 x26 x30).getD (Int.toNat (x1.g.es.getD x30 default).f) default + tt x1.ts x30 < (rdA x1 x26 x30).getD (Int.toNat (x1.g.es.getD x30 default).t) default) = true)-> ((((0 : Int) <= (x1.g.es.getD (0 + Int.toNat (x30 : Int)) default).f)/\((x1.g.es.getD (0 + Int.toNat (x30 : Int)) default).f < (x1.g.n : Int)))/\((0 + Int.toNat (x1.g.es.getD (0 + Int.toNat (x30 : Int)) default).f < x1.g.n)/\((((-9223372036854775808 : Int) <= (rdA x1 x26 x30).getD (0 + Int.toNat (x1.g.es.getD (0 + Int.toNat (x30 : Int)) default).f) default + tt x33.ts x33.i)/\((rdA x1 x26 x30).getD (0 + Int.toNat (x1.g.es.getD (0 + Int.toNat (x30 : Int)) default).f) default + tt x33.ts x33.i <= (9223372036854775807 : Int)))/\((((0 : Int) <= (x1.g.es.getD (0 + Int.toNat (x30 : Int)) default).t)/\((x1.g.es.getD (0 + Int.toNat (x30 : Int)) default).t < (x1.g.n : Int)))/\(((0 + Int.toNat (x1.g.es.getD (0 + Int.toNat (x30 : Int)) default).t < x1.g.n)/\(True/\True))/\((((-9223372036854775808 : Int) <= (x30 : Int) + 1)/\((x30 : Int) + 1 <= (9223372036854775807 : Int)))/\(∃ x46 : Nat, ((x1.g.es.length - x46 < x1.g.es.length - x30)/\((x46 <= x1.g.es.length)/\((((x30 : Int) + 1 = (x46 : Int))/\((0=0 /\ x1.g.n = x1.g.n)/\(((x26 : Int) = (x26 : Int))/\((decide ((x11 : Int) < (x1.src.length : Int)) = decide ((x11 : Int) < (x1.src.length : Int)))/\(((x1.src.length : Int) = (x1.src.length : Int))/\((0=0 /\ x1.src.length = x1.src.length)/\(((x11 : Int) = (x11 : Int))/\(((x11 : Int) = (x11 : Int))/\((decide ((x4 : Int) < (x1.g.n : Int)) = decide ((x4 : Int) < (x1.g.n : Int)))/\(((x1.g.n : Int) = (x1.g.n : Int))/\((0=0 /\ 0=0)/\(((x4 : Int) = (x4 : Int))/\(((x4 : Int) = (x4 : Int))/\(((x1.g.n : Int) = (x1.g.n : Int))/\((0=0 /\ 0=0)/\(True/\((0=0 /\ 0=0)/\((((x1.g.n : Int) = (x1.g.n : Int))/\((0=0 /\ x1.g.es.length = x1.g.es.length)/\True))/\((0=0 /\ x1.ts.length = x1.ts.length)/\((0=0 /\ x1.src.length = x1.src.length)/\True))))))))))))))))))))/\(((RLe x1.g.n x1.g.n)/\(RowsEq [.int .i64] x1.g.n (setRow (encL encI (rdA x1 x26 x30)) (0 + Int.toNat (x1.g.es.getD (0 + Int.toNat (x30 : Int)) default).t) 0 (D.i ((rdA x1 x26 x30).getD (0 + Int.toNat (x1.g.es.getD (0 + Int.toNat (x30 : Int)) default).f) default + tt x33.ts x33.i) :: @List.nil D)) (encL encI (rdA x1 x26 x46))))/\((((x1.g.n : Int) = (x1.g.n : Int))/\((0=0 /\ x1.g.es.length = x1.g.es.length)/\True))/\(((RLe x1.g.es.length x1.g.es.length)/\(RowsEq [.int .i64, .int .i64, .int .i64] x1.g.es.length (encL encE x1.g.es) (encL encE x1.g.es)))/\(((RLe x1.ts.length x1.ts.length)/\(RI x1.ts.length x1.ts x1.ts))/\(((RLe x1.src.length x1.src.length)/\(RI x1.src.length x1.src x1.src))/\True))))))))))))))))/\((decide (tt x1.ts x30 < 4611686018427387904/\(rdA x1 x26 x30).getD (Int.toNat (x1.g.es.getD x30 default).f) default < 4611686018427387904/\(rdA x1 x26 x30).getD (Int.toNat (x1.g.es.getD x30 default).f) default + tt x1.ts x30 < (rdA x1 x26 x30).getD (Int.toNat (x1.g.es.getD x30 default).t) default) = false)-> ((((-9223372036854775808 : Int) <= (x30 : Int) + 1)/\((x30 : Int) + 1 <= (9223372036854775807 : Int)))/\(∃ x48 : Nat, ((x1.g.es.length - x48 < x1.g.es.length - x30)/\((x48 <= x1.g.es.length)/\((((x30 : Int) + 1 = (x48 : Int))/\((0=0 /\ x1.g.n = x1.g.n)/\(((x26 : Int) = (x26 : Int))/\((decide ((x11 : Int) < (x1.src.length : Int)) = decide ((x11 : Int) < (x1.src.length : Int)))/\(((x1.src.length : Int) = (x1.src.length : Int))/\((0=0 /\ x1.src.length = x1.src.length)/\(((x11 : Int) = (x11 : Int))/\(((x11 : Int) = (x11 : Int))/\((decide ((x4 : Int) < (x1.g.n : Int)) = decide ((x4 : Int) < (x1.g.n : Int)))/\(((x1.g.n : Int) = (x1.g.n : Int))/\((0=0 /\ 0=0)/\(((x4 : Int) = (x4 : Int))/\(((x4 : Int) = (x4 : Int))/\(((x1.g.n : Int) = (x1.g.n : Int))/\((0=0 /\ 0=0)/\(True/\((0=0 /\ 0=0)/\((((x1.g.n : Int) = (x1.g.n : Int))/\((0=0 /\ x1.g.es.length = x1.g.es.length)/\True))/\((0=0 /\ x1.ts.length = x1.ts.length)/\((0=0 /\ x1.src.length = x1.src.length)/\True))))))))))))))))))))/\(((RLe x1.g.n x1.g.n)/\(RI x1.g.n (rdA x1 x26 x30) (rdA x1 x26 x48)))/\((((x1.g.n : Int) = (x1.g.n : Int))/\((0=0 /\ x1.g.es.length = x1.g.es.length)/\True))/\(((RLe x1.g.es.length x1.g.es.length)/\(RowsEq [.int .i64, .int .i64, .int .i64] x1.g.es.length (encL encE x1.g.es) (encL encE x1.g.es)))/\(((RLe x1.ts.length x1.ts.length)/\(RI x1.ts.length x1.ts x1.ts))/\(((RLe x1.src.length x1.src.length)/\(RI x1.src.length x1.src x1.src))/\True))))))))))))))))))))))/\((decide ((x30 : Int) < (x1.g.es.length : Int)) = false)-> ((((-9223372036854775808 : Int) <= (x26 : Int) + 1)/\((x26 : Int) + 1 <= (9223372036854775807 : Int)))/\(∃ x50 : Nat, ((x1.g.n - x50 < x1.g.n - x26)/\((x50 <= x1.g.n)/\((((x26 : Int) + 1 = (x50 : Int))/\((0=0 /\ x1.g.n = x1.g.n)/\((decide ((x11 : Int) < (x1.src.length : Int)) = decide ((x11 : Int) < (x1.src.length : Int)))/\(((x1.src.length : Int) = (x1.src.length : Int))/\((0=0 /\ x1.src.length = x1.src.length)/\(((x11 : Int) = (x11 : Int))/\(((x11 : Int) = (x11 : Int))/\((decide ((x4 : Int) < (x1.g.n : Int)) = decide ((x4 : Int) < (x1.g.n : Int)))/\(((x1.g.n : Int) = (x1.g.n : Int))/\((0=0 /\ 0=0)/\(((x4 : Int) = (x4 : Int))/\(((x4 : Int) = (x4 : Int))/\(((x1.g.n : Int) = (x1.g.n : Int))/\((0=0 /\ 0=0)/\(True/\((0=0 /\ 0=0)/\((((x1.g.n : Int) = (x1.g.n : Int))/\((0=0 /\ x1.g.es.length = x1.g.es.length)/\True))/\((0=0 /\ x1.ts.length = x1.ts.length)/\((0=0 /\ x1.src.length = x1.src.length)/\True)))))))))))))))))))/\(((RLe x1.g.n x1.g.n)/\(RI x1.g.n (rdA x1 x26 x30) (roA x1 x50)))/\((((x1.g.n : Int) = (x1.g.n : Int))/\((0=0 /\ x1.g.es.length = x1.g.es.length)/\True))/\(((RLe x1.g.es.length x1.g.es.length)/\(RowsEq [.int .i64, .int .i64, .int .i64] x1.g.es.length (encL encE x1.g.es) (encL encE x1.g.es)))/\(((RLe x1.ts.length x1.ts.length)/\(RI x1.ts.length x1.ts x1.ts))/\(((RLe x1.src.length x1.src.length)/\(RI x1.src.length x1.src x1.src))/\True)))))))))))))))))/\((decide ((x26 : Int) < (x1.g.n : Int)) = false)-> ((0=0 /\ x1.g.n = x1.g.n)/\(((RLe x1.g.n x1.g.n)/\(RI x1.g.n (roA x1 x26) (distG x1.g x1.ts x1.src true)))/\True)))))))))))))))))))))))) = (Keeps cfgQF Tryd.f30 qfromC qfromI) by kernel_rfl) (fun x1 => fun h2 => ⟨⟨(by omega),
(by omega),
(by have := h2.n; have := h2.e; have := h2.g.m; omega)⟩,
((0 : Nat)),
⟨(by omega),
⟨(by omega),
⟨rfl,
(by omega)⟩,rfl,
⟨rfl,rfl⟩,trivial,
⟨rfl,rfl⟩,
⟨rfl,
⟨rfl,rfl⟩,trivial⟩,
⟨rfl,rfl⟩,
⟨rfl,rfl⟩,trivial⟩,
⟨⟨(by omega)⟩,
(by rw [infAt_zero]; exact rows_zeroI rfl)⟩,
⟨rfl,
⟨rfl,rfl⟩,trivial⟩,
⟨rl,rr⟩,
⟨rl,rr⟩,
⟨rl,rr⟩,trivial⟩,
fun x4 => fun h5 => ⟨fun g6 => have h6 := dT g6; ⟨(default),trivial,trivial,trivial,
⟨(by omega),
(by omega)⟩,
⟨(by omega),trivial,trivial⟩,
⟨(by omega),
(by have := h2.n; have := h2.e; have := h2.g.m; omega)⟩,
(x4 + (1 : Nat)),
(by omega),
(by omega),
⟨(by omega),
⟨rfl,rfl⟩,rfl,
⟨rfl,rfl⟩,trivial,
⟨rfl,rfl⟩,
⟨rfl,
⟨rfl,rfl⟩,trivial⟩,
⟨rfl,rfl⟩,
⟨rfl,rfl⟩,trivial⟩,
⟨rl,
(by simp only [Nat.zero_add, Int.toNat_natCast] at *; rw [infAt_succ (n := x1.g.n) (k := x4) (by omega)]; exact rows_setI (by rw [infAt_len]; omega))⟩,
⟨rfl,
⟨rfl,rfl⟩,trivial⟩,
⟨rl,rr⟩,
⟨rl,rr⟩,
⟨rl,rr⟩,trivial⟩,
fun g9 => have h9 := dF g9; ⟨((0 : Nat)),
⟨(by omega),
⟨(by omega),
⟨rfl,rfl⟩,rfl,rfl,
⟨rfl,rfl⟩,rfl,rfl,rfl,
⟨rfl,rfl⟩,trivial,
⟨rfl,rfl⟩,
⟨rfl,
⟨rfl,rfl⟩,trivial⟩,
⟨rfl,rfl⟩,
⟨rfl,rfl⟩,trivial⟩,
⟨rl,
(by have e : x4 = x1.g.n := (by omega); rw [e, infAt_full]; exact rr)⟩,
⟨rfl,
⟨rfl,rfl⟩,trivial⟩,
⟨rl,rr⟩,
⟨rl,rr⟩,
⟨rl,rr⟩,trivial⟩,
fun x11 => fun h12 => ⟨fun g13 => have h13 := dT g13; ⟨⟨⟨(by omega),
(by omega)⟩,
(by omega),
fun g14 => have h14 := dT g14; ⟨⟨(by omega),
(by omega)⟩,
(by omega),
(default),trivial,
(by grind),trivial⟩,
fun g16 => have h16 := dF g16; ⟨(default),trivial,
(by grind),trivial⟩⟩,
fun x18 => fun h19 => ⟨fun g20 => have h20 := dT g20; ⟨⟨(by omega),
(by omega)⟩,
(by omega),
⟨(by grind),
(by grind)⟩,
⟨(by grind),trivial,trivial⟩,
⟨(by omega),
(by have := h2.n; have := h2.e; have := h2.g.m; omega)⟩,
(x11 + (1 : Nat)),
(by omega),
(by omega),
⟨(by omega),
⟨rfl,rfl⟩,rfl,rfl,
⟨rfl,rfl⟩,rfl,rfl,rfl,
⟨rfl,rfl⟩,trivial,
⟨rfl,rfl⟩,
⟨rfl,
⟨rfl,rfl⟩,trivial⟩,
⟨rfl,rfl⟩,
⟨rfl,rfl⟩,trivial⟩,
⟨rl,
(by simp only [Nat.zero_add, Int.toNat_natCast] at *; rw [init_in (n := x1.g.n) (src := x1.src) (k := x11) (by omega) (by omega)]; exact rows_setI (by rw [initL_len]; omega))⟩,
⟨rfl,
⟨rfl,rfl⟩,trivial⟩,
⟨rl,rr⟩,
⟨rl,rr⟩,
⟨rl,rr⟩,trivial⟩,
fun g22 => have h22 := dF g22; ⟨⟨(by omega),
(by have := h2.n; have := h2.e; have := h2.g.m; omega)⟩,
(x11 + (1 : Nat)),
(by omega),
(by omega),
⟨(by omega),
⟨rfl,rfl⟩,rfl,rfl,
⟨rfl,rfl⟩,rfl,rfl,rfl,
⟨rfl,rfl⟩,trivial,
⟨rfl,rfl⟩,
⟨rfl,
⟨rfl,rfl⟩,trivial⟩,
⟨rfl,rfl⟩,
⟨rfl,rfl⟩,trivial⟩,
⟨rl,
(by rw [init_out (n := x1.g.n) (src := x1.src) (k := x11) (by omega) h22]; exact rr)⟩,
⟨rfl,
⟨rfl,rfl⟩,trivial⟩,
⟨rl,rr⟩,
⟨rl,rr⟩,
⟨rl,rr⟩,trivial⟩⟩⟩,
fun g24 => have h24 := dF g24; ⟨((0 : Nat)),
⟨(by omega),
⟨(by omega),
⟨rfl,rfl⟩,rfl,rfl,
⟨rfl,rfl⟩,rfl,rfl,rfl,rfl,
⟨rfl,rfl⟩,rfl,rfl,rfl,
⟨rfl,rfl⟩,trivial,
⟨rfl,rfl⟩,
⟨rfl,
⟨rfl,rfl⟩,trivial⟩,
⟨rfl,rfl⟩,
⟨rfl,rfl⟩,trivial⟩,
⟨rl,
(by rw [src_all ‹_› ‹_›]; exact rr)⟩,
⟨rfl,
⟨rfl,rfl⟩,trivial⟩,
⟨rl,rr⟩,
⟨rl,rr⟩,
⟨rl,rr⟩,trivial⟩,
fun x26 => fun h27 => ⟨fun g28 => have h28 := dT g28; ⟨((0 : Nat)),
⟨(by omega),
⟨(by omega),
⟨rfl,rfl⟩,rfl,rfl,rfl,
⟨rfl,rfl⟩,rfl,rfl,rfl,rfl,
⟨rfl,rfl⟩,rfl,rfl,rfl,
⟨rfl,rfl⟩,trivial,
⟨rfl,rfl⟩,
⟨rfl,
⟨rfl,rfl⟩,trivial⟩,
⟨rfl,rfl⟩,
⟨rfl,rfl⟩,trivial⟩,
⟨rl,rr⟩,
⟨rfl,
⟨rfl,rfl⟩,trivial⟩,
⟨rl,rr⟩,
⟨rl,rr⟩,
⟨rl,rr⟩,trivial⟩,
fun x30 => fun h31 => ⟨fun g32 => have h32 := dT g32; ⟨⟨(by omega),
(by omega)⟩,
(by omega),
({ ts := FX.ts x1, i := x30 : TX }),
(by (try dsimp only at *); (have := h2.n; have := h2.e; have := h2.g.m; omega)),
⟨⟨rfl,rfl⟩,rfl,trivial⟩,
⟨⟨rl,rr⟩,trivial⟩,
⟨(default),trivial,trivial,trivial,
fun g35 => have h35 := dT g35; ⟨⟨(by simp only [Nat.zero_add, Int.toNat_natCast] at *; have := h2.g.e _ (show x30 < x1.g.es.length by omega); unfold edOk at this; omega),
(by simp only [Nat.zero_add, Int.toNat_natCast] at *; have := h2.g.e _ (show x30 < x1.g.es.length by omega); unfold edOk at this; omega)⟩,
(by simp only [Nat.zero_add, Int.toNat_natCast] at *; have := h2.g.e _ (show x30 < x1.g.es.length by omega); unfold edOk at this; omega),
(default),trivial,trivial,trivial,
fun g37 => have h37 := dT g37; ⟨⟨(by simp only [Nat.zero_add, Int.toNat_natCast] at *; have := h2.g.e _ (show x30 < x1.g.es.length by omega); unfold edOk at this; omega),
(by simp only [Nat.zero_add, Int.toNat_natCast] at *; have := h2.g.e _ (show x30 < x1.g.es.length by omega); unfold edOk at this; omega)⟩,
(by simp only [Nat.zero_add, Int.toNat_natCast] at *; have := h2.g.e _ (show x30 < x1.g.es.length by omega); unfold edOk at this; omega),
⟨(by simp only [Nat.zero_add, Int.toNat_natCast] at *; have q := h2.g.e _ (show x30 < x1.g.es.length by omega); unfold edOk at q; have : 0 <= (rdA x1 x26 x30).getD (x1.g.es.getD x30 default).f.toNat default := nn_at h2 x26 h31 (show (x1.g.es.getD x30 default).f.toNat < x1.g.n by omega); have := tt_ok x1.ts x30; unfold INF at this; omega),
(by omega)⟩,
⟨(by simp only [Nat.zero_add, Int.toNat_natCast] at *; have := h2.g.e _ (show x30 < x1.g.es.length by omega); unfold edOk at this; omega),
(by simp only [Nat.zero_add, Int.toNat_natCast] at *; have := h2.g.e _ (show x30 < x1.g.es.length by omega); unfold edOk at this; omega)⟩,
(by simp only [Nat.zero_add, Int.toNat_natCast] at *; have := h2.g.e _ (show x30 < x1.g.es.length by omega); unfold edOk at this; omega),
(default),trivial,
(by simp only [Nat.zero_add, Int.toNat_natCast] at *; apply decide_eq_decide.2; omega),trivial⟩,
fun g39 => have h39 := dF g39; ⟨(default),trivial,
(by grind),trivial⟩⟩,
fun g41 => have h41 := dF g41; ⟨(default),trivial,
(by grind),trivial⟩⟩,
fun x43 => fun h44 => ⟨fun g45 => have h45 := dT g45; ⟨⟨(by simp only [Nat.zero_add, Int.toNat_natCast] at *; have := h2.g.e _ (show x30 < x1.g.es.length by omega); unfold edOk at this; omega),
(by simp only [Nat.zero_add, Int.toNat_natCast] at *; have := h2.g.e _ (show x30 < x1.g.es.length by omega); unfold edOk at this; omega)⟩,
(by simp only [Nat.zero_add, Int.toNat_natCast] at *; have := h2.g.e _ (show x30 < x1.g.es.length by omega); unfold edOk at this; omega),
⟨(by simp only [Nat.zero_add, Int.toNat_natCast] at *; have q := h2.g.e _ (show x30 < x1.g.es.length by omega); unfold edOk at q; have : 0 <= (rdA x1 x26 x30).getD (x1.g.es.getD x30 default).f.toNat default := nn_at h2 x26 h31 (show (x1.g.es.getD x30 default).f.toNat < x1.g.n by omega); have := tt_ok x1.ts x30; unfold INF at this; omega),
(by grind)⟩,
⟨(by simp only [Nat.zero_add, Int.toNat_natCast] at *; have := h2.g.e _ (show x30 < x1.g.es.length by omega); unfold edOk at this; omega),
(by simp only [Nat.zero_add, Int.toNat_natCast] at *; have := h2.g.e _ (show x30 < x1.g.es.length by omega); unfold edOk at this; omega)⟩,
⟨(by simp only [Nat.zero_add, Int.toNat_natCast] at *; have := h2.g.e _ (show x30 < x1.g.es.length by omega); unfold edOk at this; omega),trivial,trivial⟩,
⟨(by omega),
(by have := h2.n; have := h2.e; have := h2.g.m; omega)⟩,
(x30 + (1 : Nat)),
(by omega),
(by omega),
⟨(by omega),
⟨rfl,rfl⟩,rfl,rfl,rfl,
⟨rfl,rfl⟩,rfl,rfl,rfl,rfl,
⟨rfl,rfl⟩,rfl,rfl,rfl,
⟨rfl,rfl⟩,trivial,
⟨rfl,rfl⟩,
⟨rfl,
⟨rfl,rfl⟩,trivial⟩,
⟨rfl,rfl⟩,
⟨rfl,rfl⟩,trivial⟩,
⟨rl,
(by simp only [Nat.zero_add, Int.toNat_natCast] at *; have q := h2.g.e _ (show x30 < x1.g.es.length by omega); unfold edOk at q; rw [rdA_succ, relax_yes ‹_› h45.1 h45.2.1 h45.2.2]; exact rows_setI (by rw [show (rdA x1 x26 x30).length = _ from (netF_rl h2 x26 h31).len]; show _ < x1.g.n; omega))⟩,
⟨rfl,
⟨rfl,rfl⟩,trivial⟩,
⟨rl,rr⟩,
⟨rl,rr⟩,
⟨rl,rr⟩,trivial⟩,
fun g47 => have h47 := dF g47; ⟨⟨(by omega),
(by have := h2.n; have := h2.e; have := h2.g.m; omega)⟩,
(x30 + (1 : Nat)),
(by omega),
(by omega),
⟨(by omega),
⟨rfl,rfl⟩,rfl,rfl,rfl,
⟨rfl,rfl⟩,rfl,rfl,rfl,rfl,
⟨rfl,rfl⟩,rfl,rfl,rfl,
⟨rfl,rfl⟩,trivial,
⟨rfl,rfl⟩,
⟨rfl,
⟨rfl,rfl⟩,trivial⟩,
⟨rfl,rfl⟩,
⟨rfl,rfl⟩,trivial⟩,
⟨rl,
(by rw [rdA_succ, relax_no (x := x1) (j := x30) h32 h47]; exact rr)⟩,
⟨rfl,
⟨rfl,rfl⟩,trivial⟩,
⟨rl,rr⟩,
⟨rl,rr⟩,
⟨rl,rr⟩,trivial⟩⟩⟩,
fun g49 => have h49 := dF g49; ⟨⟨(by omega),
(by have := h2.n; have := h2.e; have := h2.g.m; omega)⟩,
(x26 + (1 : Nat)),
(by omega),
(by omega),
⟨(by omega),
⟨rfl,rfl⟩,rfl,rfl,
⟨rfl,rfl⟩,rfl,rfl,rfl,rfl,
⟨rfl,rfl⟩,rfl,rfl,rfl,
⟨rfl,rfl⟩,trivial,
⟨rfl,rfl⟩,
⟨rfl,
⟨rfl,rfl⟩,trivial⟩,
⟨rfl,rfl⟩,
⟨rfl,rfl⟩,trivial⟩,
⟨rl,
(by have e : x30 = x1.g.es.length := (by omega); rw [e, show roA x1 (x26 + 1) = rdA x1 x26 x1.g.es.length from rounds_succ _ _ _]; exact rr)⟩,
⟨rfl,
⟨rfl,rfl⟩,trivial⟩,
⟨rl,rr⟩,
⟨rl,rr⟩,
⟨rl,rr⟩,trivial⟩⟩⟩,
fun g51 => have h51 := dF g51; ⟨⟨rfl,rfl⟩,
⟨rl,
(by have e : x26 = x1.g.n := (by omega); rw [e]; exact rr)⟩,trivial⟩⟩⟩⟩⟩⟩⟩)
theorem qfrom_good : Good Tryd.prog 30 qfromC /\ FnOk Tryd.prog 30 := good_of tok conQF (fn := Tryd.f30) rfl (by decide +kernel) (fun _ => rfl) qfrom_keeps
end Go.Sym