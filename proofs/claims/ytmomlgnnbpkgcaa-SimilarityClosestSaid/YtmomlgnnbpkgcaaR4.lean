import Derived.Test.YtmomlgnnbpkgcaaR3
import Derived.Test.YtmomlgnnbpkgcaaXD
namespace Go.Sym
set_option linter.unusedVariables false
set_option linter.unusedSimpArgs false
open Go.Proofs
set_option maxHeartbeats 4000000
def infAt (n k : Nat) : List Int := (List.range n).map fun v => if v < k then INF else 0
theorem infAt_len (n k : Nat) : (infAt n k).length = n := by simp [infAt]
theorem getD_map_range {n v : Nat} {f : Nat -> Int} (h : v < n) : ((List.range n).map f).getD v default = f v := by
 rw [List.getD_eq_getElem?_getD, List.getElem?_map, List.getElem?_range h]; rfl
theorem ext_at {a b : List Int} {n : Nat} (ha : a.length = n) (hb : b.length = n) (h : ∀ v, v < n -> a.getD v default = b.getD v default) : a = b :=
 list_ext0 (by omega) (fun v hv => h v (by omega))
theorem infAt_zero (n : Nat) : infAt n 0 = List.replicate n 0 := by
 refine ext_at (infAt_len _ _) (by simp) fun v hv => ?_
 unfold infAt; rw [getD_map_range hv, if_neg (by omega), List.getD_eq_getElem?_getD, List.getElem?_replicate, if_pos hv]; rfl
theorem infAt_succ {n k : Nat} (hk : k < n) : infAt n (k + 1) = (infAt n k).set k 4611686018427387904 := by
 refine ext_at (infAt_len _ _) (by simp [infAt_len]) fun v hv => ?_
 have h := at0_set (d := infAt n k) (v := k) (u := v) (x := 4611686018427387904)
 unfold at0 at h; rw [h]
 unfold infAt
 rw [getD_map_range hv, getD_map_range hv, List.length_map, List.length_range]
 by_cases e : k = v
 ·subst e; rw [if_pos (by omega), if_pos ⟨rfl, hk⟩]; rfl
 ·rw [if_neg (fun q : k = v /\ _ => e q.1)]
  by_cases e2 : v < k
  ·rw [if_pos (by omega), if_pos e2]
  ·rw [if_neg (by omega), if_neg e2]
theorem infAt_full (n : Nat) (src : List Int) : infAt n n = initL n (isSrc (src.take 0)) := by
 refine ext_at (infAt_len _ _) (initL_len _ _) fun v hv => ?_
 unfold infAt initL; rw [getD_map_range hv, getD_map_range hv, if_pos hv]; rfl
theorem isSrc_succ {src : List Int} {k : Nat} (hk : k < src.length) (v : Nat) : isSrc (src.take (k + 1)) v = (isSrc (src.take k) v || src.getD k default == (v : Int)) := by
 unfold isSrc
 rw [take_succ_getD (d := default) hk, List.any_append, List.any_cons, List.any_nil, Bool.or_false]
theorem init_out {n k : Nat} {src : List Int} (hk : k < src.length) (h : ¬ (0 <= src.getD k default /\ src.getD k default < n)) : initL n (isSrc (src.take (k + 1))) = initL n (isSrc (src.take k)) := by
 refine ext_at (initL_len _ _) (initL_len _ _) fun v hv => ?_
 unfold initL; rw [getD_map_range hv, getD_map_range hv, isSrc_succ hk]
 have : (src.getD k default == (v : Int)) = false := by rw [beq_eq_false_iff_ne]; omega
 rw [this, Bool.or_false]
theorem init_in {n k : Nat} {src : List Int} (hk : k < src.length) (h : 0 <= src.getD k default /\ src.getD k default < n) : initL n (isSrc (src.take (k + 1))) = (initL n (isSrc (src.take k))).set (src.getD k default).toNat 0 := by
 refine ext_at (initL_len _ _) (by simp [initL_len]) fun v hv => ?_
 have h2 := at0_set (d := initL n (isSrc (src.take k))) (v := (src.getD k default).toNat) (u := v) (x := 0)
 unfold at0 at h2; rw [h2, initL_len]
 unfold initL; rw [getD_map_range hv, getD_map_range hv, isSrc_succ hk]
 by_cases e : (src.getD k default).toNat = v
 ·have : (src.getD k default == (v : Int)) = true := by rw [beq_iff_eq]; omega
  rw [this, Bool.or_true, if_pos (show _ /\ _ from ⟨e, hv⟩)]; rfl
 ·have : (src.getD k default == (v : Int)) = false := by rw [beq_eq_false_iff_ne]; omega
  rw [this, Bool.or_false, if_neg (fun q : _ /\ _ => e q.1)]
def netF (x : FX) : WNet := netG x.g (ttL x.ts x.g.es.length) true
def qfromC : CT where
 X := FX
 pre := FXok
 args := fun x => [.agg [.i .i64 x.g.n, .sl 100000 0 x.g.es.length], .sl 100001 0 x.ts.length, .sl 100002 0 x.src.length]
 g0 := fun x => [(100000, .rows .bor kE x.g.es.length (encL encE x.g.es)), (100001, .rows .bor k1 x.ts.length (encL encI x.ts)), (100002, .rows .bor k1 x.src.length (encL encI x.src))]
 res := fun x => .sl 1 0 x.g.n
 g1 := fun x => [(1, .rows .own k1 x.g.n (encL encI (distG x.g x.ts x.src true)))]
def qfromI (x : FX) (id : Nat) : Option Inv := match id with
 | 0 => some { X := Nat, ok := fun k => k <= x.g.n, fr := fun k => [(8, .i .i64 k), (7, .sl 61 0 x.g.n)], hp := fun k => [(61, .rows .own k1 x.g.n (encL encI (infAt x.g.n k)))], me := fun k => x.g.n - k }
 | 2 => some { X := Nat, ok := fun k => k <= x.src.length, fr := fun k => [(9, .i .i64 k), (7, .sl 61 0 x.g.n)], hp := fun k => [(61, .rows .own k1 x.g.n (encL encI (initL x.g.n (isSrc (x.src.take k)))))], me := fun k => x.src.length - k }
 | 4 => some { X := Nat, ok := fun k => k <= x.g.n, fr := fun k => [(10, .i .i64 k), (7, .sl 61 0 x.g.n)], hp := fun k => [(61, .rows .own k1 x.g.n (encL encI (rounds (netF x) (initL x.g.n (isSrc x.src)) k)))], me := fun k => x.g.n - k,
               inn := fun k id => match id with
                | 6 => some { X := Nat, ok := fun j => j <= x.g.es.length, fr := fun j => [(11, .i .i64 j), (7, .sl 61 0 x.g.n)],
                              hp := fun j => [(61, .rows .own k1 x.g.n (encL encI (roundAt (netF x) (rounds (netF x) (initL x.g.n (isSrc x.src)) k) j)))], me := fun j => x.g.es.length - j }
                | _ => none }
 | _ => none
def cfgQF : Cfg := ⟨T, [], [(35, .one neverC), (41, .one travelC)], noInv, 50, {}⟩
theorem conQF : ConOk Try.prog cfgQF := ConL.ok (.cons (ConL.one never_good) (.cons (ConL.one time_good) .nil))
theorem netF_ok {x : FX} (h : FXok x) : (netF x).Ok := netG_ok h.g (wsOk_tt _ _) true
theorem netF_rl {x : FX} (h : FXok x) (k : Nat) {j : Nat} (hj : j <= x.g.es.length) : Rlx (netF x) (fun v => isSrc x.src v = true) (roundAt (netF x) (rounds (netF x) (initL x.g.n (isSrc x.src)) k) j) :=
 ((initL_rlx (N := netF x) (isSrc x.src)).rounds (netF_ok h) k).roundAt (netF_ok h) j hj
theorem relax_yes {x : FX} {d : List Int} {j : Nat} (hj : (j : Int) < x.g.es.length) (h1 : tt x.ts j < 4611686018427387904) (h2 : d.getD (x.g.es.getD j default).f.toNat default < 4611686018427387904)
  (h3 : d.getD (x.g.es.getD j default).f.toNat default + tt x.ts j < d.getD (x.g.es.getD j default).t.toNat default) :
  relaxE (netF x) d j = d.set (x.g.es.getD j default).t.toNat (d.getD (x.g.es.getD j default).f.toNat default + tt x.ts j) := by
 have e : (netF x).w j = tt x.ts j := ttL_at (by omega)
 unfold relaxE
 rw [e]
 exact if_pos ⟨h1, h2, h3⟩
theorem relax_no {x : FX} {d : List Int} {j : Nat} (hj : (j : Int) < x.g.es.length) (h : ¬ (tt x.ts j < 4611686018427387904 /\ d.getD (x.g.es.getD j default).f.toNat default < 4611686018427387904 /\
  d.getD (x.g.es.getD j default).f.toNat default + tt x.ts j < d.getD (x.g.es.getD j default).t.toNat default)) : relaxE (netF x) d j = d := by
 have e : (netF x).w j = tt x.ts j := ttL_at (by omega)
 unfold relaxE
 rw [e]
 exact if_neg h
theorem no1 {a b c : Prop} (h : ¬ a) : ¬ (a /\ b /\ c) := fun q => h q.1
theorem no2 {a b c : Prop} (h : ¬ b) : ¬ (a /\ b /\ c) := fun q => h q.2.1
theorem no3 {a b c : Prop} (h : ¬ c) : ¬ (a /\ b /\ c) := fun q => h q.2.2
theorem relax_no1 {x : FX} {d : List Int} {j : Nat} (hj : (j : Int) < x.g.es.length) (h : ¬ tt x.ts j < 4611686018427387904) : relaxE (netF x) d j = d := relax_no hj (no1 h)
theorem relax_no2 {x : FX} {d : List Int} {j : Nat} (hj : (j : Int) < x.g.es.length) (h : ¬ d.getD (x.g.es.getD j default).f.toNat default < 4611686018427387904) : relaxE (netF x) d j = d := relax_no hj (no2 h)
theorem relax_no3 {x : FX} {d : List Int} {j : Nat} (hj : (j : Int) < x.g.es.length) (h : ¬ d.getD (x.g.es.getD j default).f.toNat default + tt x.ts j < d.getD (x.g.es.getD j default).t.toNat default) : relaxE (netF x) d j = d := relax_no hj (no3 h)
theorem src_all {x : FX} {k : Nat} (h : k <= x.src.length) (h2 : ¬ (k : Int) < x.src.length) : x.src.take k = x.src := List.take_of_length_le (by omega)
theorem nn_at {x : FX} (h : FXok x) (k : Nat) {j v : Nat} (hj : j <= x.g.es.length) (hv : v < x.g.n) : 0 <= (roundAt (netF x) (rounds (netF x) (initL x.g.n (isSrc x.src)) k) j).getD v default := (netF_rl h k hj).nn v hv
set_option maxRecDepth 100000 in
theorem qfrom_keeps : Keeps cfgQF Try.f28 qfromC qfromI := Eq.mp (show ((∀ x1 : FX, ((FXok x1)-> ((((0 : Int) <= (x1.g.n : Int))/\(((x1.g.n : Int) <= (x1.g.n : Int))/\((x1.g.n : Int) <= (↑(1073741824 : Nat) : Int))))/\(∃ x3 : Nat, (((x3 <= x1.g.n)/\(((0 = (x3 : Int))/\((0=0/\(Int.toNat (x1.g.n : Int) = x1.g.n))/\(((x1.g.n : Int) = (x1.g.n : Int))/\((0=0 /\ 0=0)/\(True/\((0=0 /\ 0=0)/\((((x1.g.n : Int) = (x1.g.n : Int))/\((0=0 /\ x1.g.es.length = x1.g.es.length)/\True))/\((0=0 /\ x1.ts.length = x1.ts.length)/\((0=0 /\ x1.src.length = x1.src.length)/\True)))))))))/\(((RLe x1.g.n (Int.toNat (x1.g.n : Int)))/\(RowsEq [.int .i64] x1.g.n (fun (x j : Nat) => zRow [.int .i64] j) (encL encI (infAt x1.g.n x3))))/\((((x1.g.n : Int) = (x1.g.n : Int))/\((0=0 /\ x1.g.es.length = x1.g.es.length)/\True))/\(((RLe x1.g.es.length x1.g.es.length)/\(RowsEq [.int .i64, .int .i64, .int .i64] x1.g.es.length (encL encE x1.g.es) (encL encE x1.g.es)))/\(((RLe x1.ts.length x1.ts.length)/\(RowsEq [.int .i64] x1.ts.length (encL encI x1.ts) (encL encI x1.ts)))/\(((RLe x1.src.length x1.src.length)/\(RowsEq [.int .i64] x1.src.length (encL encI x1.src) (encL encI x1.src)))/\True)))))))/\(∀ x4 : Nat, ((x4 <= x1.g.n)-> (((decide ((x4 : Int) < (x1.g.n : Int)) = true)-> (∃ x7 : Unit, (True/\(True/\(True/\((((0 : Int) <= (x4 : Int))/\((x4 : Int) < (x1.g.n : Int)))/\(((0 + Int.toNat (x4 : Int) < x1.g.n)/\(True/\True))/\((((-9223372036854775808 : Int) <= (x4 : Int) + 1)/\((x4 : Int) + 1 <= (9223372036854775807 : Int)))/\(∃ x8 : Nat, ((x1.g.n - x8 < x1.g.n - x4)/\((x8 <= x1.g.n)/\((((x4 : Int) + 1 = (x8 : Int))/\((0=0 /\ x1.g.n = x1.g.n)/\(((x1.g.n : Int) = (x1.g.n : Int))/\((0=0 /\ 0=0)/\(True/\((0=0 /\ 0=0)/\((((x1.g.n : Int) = (x1.g.n : Int))/\((0=0 /\ x1.g.es.length = x1.g.es.length)/\True))/\((0=0 /\ x1.ts.length = x1.ts.length)/\((0=0 /\ x1.src.length = x1.src.length)/\True)))))))))/\(((RLe x1.g.n x1.g.n)/\(RowsEq [.int .i64] x1.g.n (setRow (encL encI (infAt x1.g.n x4)) (0 + Int.toNat (x4 : Int)) 0 (D.i 4611686018427387904 :: @List.nil D)) (encL encI (infAt x1.g.n x8))))/\((((x1.g.n : Int) = (x1.g.n : Int))/\((0=0 /\ x1.g.es.length = x1.g.es.length)/\True))/\(((RLe x1.g.es.length x1.g.es.length)/\(RowsEq [.int .i64, .int .i64, .int .i64] x1.g.es.length (encL encE x1.g.es) (encL encE x1.g.es)))/\(((RLe x1.ts.length x1.ts.length)/\(RowsEq [.int .i64] x1.ts.length (encL encI x1.ts) (encL encI x1.ts)))/\(((RLe x1.src.length x1.src.length)/\(RowsEq [.int .i64] x1.src.length (encL encI x1.src) (encL encI x1.src)))/\True)))))))))))))))))/\((decide ((x4 : Int) < (x1.g.n : Int)) = false)-> (∃ x10 : Nat, (((x10 <= x1.src.length)/\(((0 = (x10 : Int))/\((0=0 /\ x1.g.n = x1.g.n)/\((decide ((x4 : Int) < (x1.g.n : Int)) = decide ((x4 : Int) < (x1.g.n : Int)))/\(((x1.g.n : Int) = (x1.g.n : Int))/\((0=0 /\ 0=0)/\(((x4 : Int) = (x4 : Int))/\(((x4 : Int) = (x4 : Int))/\(((x1.g.n : Int) = (x1.g.n : Int))/\((0=0 /\ 0=0)/\(True/\((0=0 /\ 0=0)/\((((x1.g.n : Int) = (x1.g.n : Int))/\((0=0 /\ x1.g.es.length = x1.g.es.length)/\True))/\((0=0 /\ x1.ts.length = x1.ts.length)/\((0=0 /\ x1.src.length = x1.src.length)/\True))))))))))))))/\(((RLe x1.g.n x1.g.n)/\(RowsEq [.int .i64] x1.g.n (encL encI (infAt x1.g.n x4)) (encL encI (initL x1.g.n (isSrc (List.take x10 x1.src))))))/\((((x1.g.n : Int) = (x1.g.n : Int))/\((0=0 /\ x1.g.es.length = x1.g.es.length)/\True))/\(((RLe x1.g.es.length x1.g.es.length)/\(RowsEq [.int .i64, .int .i64, .int .i64] x1.g.es.length (encL encE x1.g.es) (encL encE x1.g.es)))/\(((RLe x1.ts.length x1.ts.length)/\(RowsEq [.int .i64] x1.ts.length (encL encI x1.ts) (encL encI x1.ts)))/\(((RLe x1.src.length x1.src.length)/\(RowsEq [.int .i64] x1.src.length (encL encI x1.src) (encL encI x1.src)))/\True)))))))/\(∀ x11 : Nat, ((x11 <= x1.src.length)-> (((decide ((x11 : Int) < (x1.src.length : Int)) = true)-> ((((0 : Int) <= (x11 : Int))/\((x11 : Int) < (x1.src.length : Int)))/\((0 + Int.toNat (x11 : Int) < x1.src.length)/\(((decide ((0 : Int) <= x1.src.getD (0 + Int.toNat (x11 : Int)) default) = true)-> ((((0 : Int) <= (x11 : Int))/\((x11 : Int) < (x1.src.length : Int)))/\((0 + Int.toNat (x11 : Int) < x1.src.length)/\(((decide (x1.src.getD (0 + Int.toNat (x11 : Int)) default < (x1.g.n : Int)) = true)-> ((((0 : Int) <= (x11 : Int))/\((x11 : Int) < (x1.src.length : Int)))/\((0 + Int.toNat (x11 : Int) < x1.src.length)/\((((0 : Int) <= x1.src.getD (0 + Int.toNat (x11 : Int)) default)/\(x1.src.getD (0 + Int.toNat (x11 : Int)) default < (x1.g.n : Int)))/\(((0 + Int.toNat (x1.src.getD (0 + Int.toNat (x11 : Int)) default) < x1.g.n)/\(True/\True))/\((((-9223372036854775808 : Int) <= (x11 : Int) + 1)/\((x11 : Int) + 1 <= (9223372036854775807 : Int)))/\(∃ x16 : Nat, ((x1.src.length - x16 < x1.src.length - x11)/\((x16 <= x1.src.length)/\((((x11 : Int) + 1 = (x16 : Int))/\((0=0 /\ x1.g.n = x1.g.n)/\((decide ((x4 : Int) < (x1.g.n : Int)) = decide ((x4 : Int) < (x1.g.n : Int)))/\(((x1.g.n : Int) = (x1.g.n : Int))/\((0=0 /\ 0=0)/\(((x4 : Int) = (x4 : Int))/\(((x4 : Int) = (x4 : Int))/\(((x1.g.n : Int) = (x1.g.n : Int))/\((0=0 /\ 0=0)/\(True/\((0=0 /\ 0=0)/\((((x1.g.n : Int) = (x1.g.n : Int))/\((0=0 /\ x1.g.es.length = x1.g.es.length)/\True))/\((0=0 /\ x1.ts.length = x1.ts.length)/\((0=0 /\ x1.src.length = x1.src.length)/\True))))))))))))))/\(((RLe x1.g.n x1.g.n)/\(RowsEq [.int .i64] x1.g.n (setRow (encL encI (initL x1.g.n (isSrc (List.take x11 x1.src)))) (0 + Int.toNat (x1.src.getD (0 + Int.toNat (x11 : Int)) default)) 0 (D.i 0 :: @List.nil D)) (encL encI (initL x1.g.n (isSrc (List.take x16 x1.src))))))/\((((x1.g.n : Int) = (x1.g.n : Int))/\((0=0 /\ x1.g.es.length = x1.g.es.length)/\True))/\(((RLe x1.g.es.length x1.g.es.length)/\(RowsEq [.int .i64, .int .i64, .int .i64] x1.g.es.length (encL encE x1.g.es) (encL encE x1.g.es)))/\(((RLe x1.ts.length x1.ts.length)/\(RowsEq [.int .i64] x1.ts.length (encL encI x1.ts) (encL encI x1.ts)))/\(((RLe x1.src.length x1.src.length)/\(RowsEq [.int .i64] x1.src.length (encL encI x1.src) (encL encI x1.src)))/\True)))))))))))))))/\((decide (x1.src.getD (0 + Int.toNat (x11 : Int)) default < (x1.g.n : Int)) = false)-> ((((-9223372036854775808 : Int) <= (x11 : Int) + 1)/\((x11 : Int) + 1 <= (9223372036854775807 : Int)))/\(∃ x18 : Nat, ((x1.src.length - x18 < x1.src.length - x11)/\((x18 <= x1.src.length)/\((((x11 : Int) + 1 = (x18 : Int))/\((0=0 /\ x1.g.n = x1.g.n)/\((decide ((x4 : Int) < (x1.g.n : Int)) = decide ((x4 : Int) < (x1.g.n : Int)))/\(((x1.g.n : Int) = (x1.g.n : Int))/\((0=0 /\ 0=0)/\(((x4 : Int) = (x4 : Int))/\(((x4 : Int) = (x4 : Int))/\(((x1.g.n : Int) = (x1.g.n : Int))/\((0=0 /\ 0=0)/\(True/\((0=0 /\ 0=0)/\((((x1.g.n : Int) = (x1.g.n : Int))/\((0=0 /\ x1.g.es.length = x1.g.es.length)/\True))/\((0=0 /\ x1.ts.length = x1.ts.length)/\((0=0 /\ x1.src.length = x1.src.length)/\True))))))))))))))/\(((RLe x1.g.n x1.g.n)/\(RowsEq [.int .i64] x1.g.n (encL encI (initL x1.g.n (isSrc (List.take x11 x1.src)))) (encL encI (initL x1.g.n (isSrc (List.take x18 x1.src))))))/\((((x1.g.n : Int) = (x1.g.n : Int))/\((0=0 /\ x1.g.es.length = x1.g.es.length)/\True))/\(((RLe x1.g.es.length x1.g.es.length)/\(RowsEq [.int .i64, .int .i64, .int .i64] x1.g.es.length (encL encE x1.g.es) (encL encE x1.g.es)))/\(((RLe x1.ts.length x1.ts.length)/\(RowsEq [.int .i64] x1.ts.length (encL encI x1.ts) (encL encI x1.ts)))/\(((RLe x1.src.length x1.src.length)/\(RowsEq [.int .i64] x1.src.length (encL encI x1.src) (encL encI x1.src)))/\True)))))))))))))))/\((decide ((0 : Int) <= x1.src.getD (0 + Int.toNat (x11 : Int)) default) = false)-> ((((-9223372036854775808 : Int) <= (x11 : Int) + 1)/\((x11 : Int) + 1 <= (9223372036854775807 : Int)))/\(∃ x20 : Nat, ((x1.src.length - x20 < x1.src.length - x11)/\((x20 <= x1.src.length)/\((((x11 : Int) + 1 = (x20 : Int))/\((0=0 /\ x1.g.n = x1.g.n)/\((decide ((x4 : Int) < (x1.g.n : Int)) = decide ((x4 : Int) < (x1.g.n : Int)))/\(((x1.g.n : Int) = (x1.g.n : Int))/\((0=0 /\ 0=0)/\(((x4 : Int) = (x4 : Int))/\(((x4 : Int) = (x4 : Int))/\(((x1.g.n : Int) = (x1.g.n : Int))/\((0=0 /\ 0=0)/\(True/\((0=0 /\ 0=0)/\((((x1.g.n : Int) = (x1.g.n : Int))/\((0=0 /\ x1.g.es.length = x1.g.es.length)/\True))/\((0=0 /\ x1.ts.length = x1.ts.length)/\((0=0 /\ x1.src.length = x1.src.length)/\True))))))))))))))/\(((RLe x1.g.n x1.g.n)/\(RowsEq [.int .i64] x1.g.n (encL encI (initL x1.g.n (isSrc (List.take x11 x1.src)))) (encL encI (initL x1.g.n (isSrc (List.take x20 x1.src))))))/\((((x1.g.n : Int) = (x1.g.n : Int))/\((0=0 /\ x1.g.es.length = x1.g.es.length)/\True))/\(((RLe x1.g.es.length x1.g.es.length)/\(RowsEq [.int .i64, .int .i64, .int .i64] x1.g.es.length (encL encE x1.g.es) (encL encE x1.g.es)))/\(((RLe x1.ts.length x1.ts.length)/\(RowsEq [.int .i64] x1.ts.length (encL encI x1.ts) (encL encI x1.ts)))/\(((RLe x1.src.length x1.src.length)/\(RowsEq [.int .i64] x1.src.length (encL encI x1.src) (encL encI x1.src)))/\True)))))))))))))))/\((decide ((x11 : Int) < (x1.src.length : Int)) = false)-> (∃ x22 : Nat, (((x22 <= x1.g.n)/\(((0 = (x22 : Int))/\((0=0 /\ x1.g.n = x1.g.n)/\((decide ((x11 : Int) < (x1.src.length : Int)) = decide ((x11 : Int) < (x1.src.length : Int)))/\(((x1.src.length : Int) = (x1.src.length : Int))/\((0=0 /\ x1.src.length = x1.src.length)/\(((x11 : Int) = (x11 : Int))/\(((x11 : Int) = (x11 : Int))/\((decide ((x4 : Int) < (x1.g.n : Int)) = decide ((x4 : Int) < (x1.g.n : Int)))/\(((x1.g.n : Int) = (x1.g.n : Int))/\((0=0 /\ 0=0)/\(((x4 : Int) = (x4 : Int))/\(((x4 : Int) = (x4 : Int))/\(((x1.g.n : Int) = (x1.g.n : Int))/\((0=0 /\ 0=0)/\(True/\((0=0 /\ 0=0)/\((((x1.g.n : Int) = (x1.g.n : Int))/\((0=0 /\ x1.g.es.length = x1.g.es.length)/\True))/\((0=0 /\ x1.ts.length = x1.ts.length)/\((0=0 /\ x1.src.length = x1.src.length)/\True)))))))))))))))))))/\(((RLe x1.g.n x1.g.n)/\(RowsEq [.int .i64] x1.g.n (encL encI (initL x1.g.n (isSrc (List.take x11 x1.src)))) (encL encI (rounds (netF x1) (initL x1.g.n (isSrc x1.src)) x22))))/\((((x1.g.n : Int) = (x1.g.n : Int))/\((0=0 /\ x1.g.es.length = x1.g.es.length)/\True))/\(((RLe x1.g.es.length x1.g.es.length)/\(RowsEq [.int .i64, .int .i64, .int .i64] x1.g.es.length (encL encE x1.g.es) (encL encE x1.g.es)))/\(((RLe x1.ts.length x1.ts.length)/\(RowsEq [.int .i64] x1.ts.length (encL encI x1.ts) (encL encI x1.ts)))/\(((RLe x1.src.length x1.src.length)/\(RowsEq [.int .i64] x1.src.length (encL encI x1.src) (encL encI x1.src)))/\True)))))))/\(∀ x23 : Nat, ((x23 <= x1.g.n)-> (((decide ((x23 : Int) < (x1.g.n : Int)) = true)-> (∃ x26 : Nat, (((x26 <= x1.g.es.length)/\(((0 = (x26 : Int))/\((0=0 /\ x1.g.n = x1.g.n)/\(((x23 : Int) = (x23 : Int))/\((decide ((x11 : Int) < (x1.src.length : Int)) = decide ((x11 : Int) < (x1.src.length : Int)))/\(((x1.src.length : Int) = (x1.src.length : Int))/\((0=0 /\ x1.src.length = x1.src.length)/\(((x11 : Int) = (x11 : Int))/\(((x11 : Int) = (x11 : Int))/\((decide ((x4 : Int) < (x1.g.n : Int)) = decide ((x4 : Int) < (x1.g.n : Int)))/\(((x1.g.n : Int) = (x1.g.n : Int))/\((0=0 /\ 0=0)/\(((x4 : Int) = (x4 : Int))/\(((x4 : Int) = (x4 : Int))/\(((x1.g.n : Int) = (x1.g.n : Int))/\((0=0 /\ 0=0)/\(True/\((0=0 /\ 0=0)/\((((x1.g.n : Int) = (x1.g.n : Int))/\((0=0 /\ x1.g.es.length = x1.g.es.length)/\True))/\((0=0 /\ x1.ts.length = x1.ts.length)/\((0=0 /\ x1.src.length = x1.src.length)/\True))))))))))))))))))))/\(((RLe x1.g.n x1.g.n)/\(RowsEq [.int .i64] x1.g.n (encL encI (rounds (netF x1) (initL x1.g.n (isSrc x1.src)) x23)) (encL encI (roundAt (netF x1) (rounds (netF x1) (initL x1.g.n (isSrc x1.src)) x23) x26))))/\((((x1.g.n : Int) = (x1.g.n : Int))/\((0=0 /\ x1.g.es.length = x1.g.es.length)/\True))/\(((RLe x1.g.es.length x1.g.es.length)/\(RowsEq [.int .i64, .int .i64, .int .i64] x1.g.es.length (encL encE x1.g.es) (encL encE x1.g.es)))/\(((RLe x1.ts.length x1.ts.length)/\(RowsEq [.int .i64] x1.ts.length (encL encI x1.ts) (encL encI x1.ts)))/\(((RLe x1.src.length x1.src.length)/\(RowsEq [.int .i64] x1.src.length (encL encI x1.src) (encL encI x1.src)))/\True)))))))/\(∀ x27 : Nat, ((x27 <= x1.g.es.length)-> (((decide ((x27 : Int) < (x1.g.es.length : Int)) = true)-> ((((0 : Int) <= (x27 : Int))/\((x27 : Int) < (x1.g.es.length : Int)))/\((0 + Int.toNat (x27 : Int) < x1.g.es.length)/\(∃ x30 : TX, ((x30.i <= (1073741824 : Nat))/\(((0=0 /\ x1.ts.length = x30.ts.length)/\(((x27 : Int) = (x30.i : Int))/\True))/\((((RLe x30.ts.length x1.ts.length)/\(RowsEq [.int .i64] x30.ts.length (encL encI x1.ts) (encL encI x30.ts)))/\True)/\(∃ x31 : Unit, (True/\(True/\(True/\(((decide (tt x30.ts x30.i < (4611686018427387904 : Int)) = true)-> ((((0 : Int) <= (x1.g.es.getD (0 + Int.toNat (x27 : Int)) default).f)/\((x1.g.es.getD (0 + Int.toNat (x27 : Int)) default).f < (x1.g.n : Int)))/\((0 + Int.toNat (x1.g.es.getD (0 + Int.toNat (x27 : Int)) default).f < x1.g.n)/\(∃ x33 : Unit, (True/\(True/\(True/\(((decide ((roundAt (netF x1) (rounds (netF x1) (initL x1.g.n (isSrc x1.src)) x23) x27).getD (0 + Int.toNat (x1.g.es.getD (0 + Int.toNat (x27 : Int)) default).f) default < 4611686018427387904) = true)-> ((((0 : Int) <= (x1.g.es.getD (0 + Int.toNat (x27 : Int)) default).f)/\((x1.g.es.getD (0 + Int.toNat (x27 : Int)) default).f < (x1.g.n : Int)))/\((0 + Int.toNat (x1.g.es.getD (0 + Int.toNat (x27 : Int)) default).f < x1.g.n)/\((((-9223372036854775808 : Int) <= (roundAt (netF x1) (rounds (netF x1) (initL x1.g.n (isSrc x1.src)) x23) x27).getD (0 + Int.toNat (x1.g.es.getD (0 + Int.toNat (x27 : Int)) default).f) default + tt x30.ts x30.i)/\((roundAt (netF x1) (rounds (netF x1) (initL x1.g.n (isSrc x1.src)) x23) x27).getD (0 + Int.toNat (x1.g.es.getD (0 + Int.toNat (x27 : Int)) default).f) default + tt x30.ts x30.i <= (9223372036854775807 : Int)))/\((((0 : Int) <= (x1.g.es.getD (0 + Int.toNat (x27 : Int)) default).t)/\((x1.g.es.getD (0 + Int.toNat (x27 : Int)) default).t < (x1.g.n : Int)))/\((0 + Int.toNat (x1.g.es.getD (0 + Int.toNat (x27 : Int)) default).t < x1.g.n)/\(((decide ((roundAt (netF x1) (rounds (netF x1) (initL x1.g.n (isSrc x1.src)) x23) x27).getD (0 + Int.toNat (x1.g.es.getD (0 + Int.toNat (x27 : Int)) default).f) default + tt x30.ts x30.i < (roundAt (netF x1) (rounds (netF x1) (initL x1.g.n (isSrc x1.src)) x23) x27).getD (0 + Int.toNat (x1.g.es.getD (0 + Int.toNat (x27 : Int)) default).t) default) = true)-> ((((0 : Int) <= (x1.g.es.getD (0 + Int.toNat (x27 : Int)) default).f)/\((x1.g.es.getD (0 + Int.toNat (x27 : Int)) default).f < (x1.g.n : Int)))/\((0 + Int.toNat (x1.g.es.getD (0 + Int.toNat (x27 : Int)) default).f < x1.g.n)/\((((-9223372036854775808 : Int) <= (roundAt (netF x1) (rounds (netF x1) (initL x1.g.n (isSrc x1.src)) x23) x27).getD (0 + Int.toNat (x1.g.es.getD (0 + Int.toNat (x27 : Int)) default).f) default + tt x30.ts x30.i)/\((roundAt (netF x1) (rounds (netF x1) (initL x1.g.n (isSrc x1.src)) x23) x27).getD (0 + Int.toNat (x1.g.es.getD (0 + Int.toNat (x27 : Int)) default).f) default + tt x30.ts x30.i <= (9223372036854775807 : Int)))/\((((0 : Int) <= (x1.g.es.getD (0 + Int.toNat (x27 : Int)) default).t)/\((x1.g.es.getD (0 + Int.toNat (x27 : Int)) default).t < (x1.g.n : Int)))/\(((0 + Int.toNat (x1.g.es.getD (0 + Int.toNat (x27 : Int)) default).t < x1.g.n)/\(True/\True))/\((((-9223372036854775808 : Int) <= (x27 : Int) + 1)/\((x27 : Int) + 1 <= (9223372036854775807 : Int)))/\(∃ x36 : Nat, ((x1.g.es.length - x36 < x1.g.es.length - x27)/\((x36 <= x1.g.es.length)/\((((x27 : Int) + 1 = (x36 : Int))/\((0=0 /\ x1.g.n = x1.g.n)/\(((x23 : Int) = (x23 : Int))/\((decide ((x11 : Int) < (x1.src.length : Int)) = decide ((x11 : Int) < (x1.src.length : Int)))/\(((x1.src.length : Int) = (x1.src.length : Int))/\((0=0 /\ x1.src.length = x1.src.length)/\(((x11 : Int) = (x11 : Int))/\(((x11 : Int) = (x11 : Int))/\((decide ((x4 : Int) < (x1.g.n : Int)) = decide ((x4 : Int) < (x1.g.n : Int)))/\(((x1.g.n : Int) = (x1.g.n : Int))/\((0=0 /\ 0=0)/\(((x4 : Int) = (x4 : Int))/\(((x4 : Int) = (x4 : Int))/\(((x1.g.n : Int) = (x1.g.n : Int))/\((0=0 /\ 0=0)/\(True/\((0=0 /\ 0=0)/\((((x1.g.n : Int) = (x1.g.n : Int))/\((0=0 /\ x1.g.es.length = x1.g.es.length)/\True))/\((0=0 /\ x1.ts.length = x1.ts.length)/\((0=0 /\ x1.src.length = x1.src.length)/\True))))))))))))))))))))/\(((RLe x1.g.n x1.g.n)/\(RowsEq [.int .i64] x1.g.n (setRow (encL encI (roundAt (netF x1) (rounds (netF x1) (initL x1.g.n (isSrc x1.src)) x23) x27)) (0 + Int.toNat (x1.g.es.getD (0 + Int.toNat (x27 : Int)) default).t) 0 (D.i ((roundAt (netF x1) (rounds (netF x1) (initL x1.g.n (isSrc x1.src)) x23) x27).getD (0 + Int.toNat (x1.g.es.getD (0 + Int.toNat (x27 : Int)) default).f) default + tt x30.ts x30.i) :: @List.nil D)) (encL encI (roundAt (netF x1) (rounds (netF x1) (initL x1.g.n (isSrc x1.src)) x23) x36))))/\((((x1.g.n : Int) = (x1.g.n : Int))/\((0=0 /\ x1.g.es.length = x1.g.es.length)/\True))/\(((RLe x1.g.es.length x1.g.es.length)/\(RowsEq [.int .i64, .int .i64, .int .i64] x1.g.es.length (encL encE x1.g.es) (encL encE x1.g.es)))/\(((RLe x1.ts.length x1.ts.length)/\(RowsEq [.int .i64] x1.ts.length (encL encI x1.ts) (encL encI x1.ts)))/\(((RLe x1.src.length x1.src.length)/\(RowsEq [.int .i64] x1.src.length (encL encI x1.src) (encL encI x1.src)))/\True))))))))))))))))/\((decide ((roundAt (netF x1) (rounds (netF x1) (initL x1.g.n (isSrc x1.src)) x23) x27).getD (0 + Int.toNat (x1.g.es.getD (0 + Int.toNat (x27 : Int)) default).f) default + tt x30.ts x30.i < (roundAt (netF x1) (rounds (netF x1) (initL x1.g.n (isSrc x1.src)) x23) x27).getD (0 + Int.toNat (x1.g.es.getD (0 + Int.toNat (x27 : Int)) default).t) default) = false)-> ((((-9223372036854775808 : Int) <= (x27 : Int) + 1)/\((x27 : Int) + 1 <= (9223372036854775807 : Int)))/\(∃ x38 : Nat, ((x1.g.es.length - x38 < x1.g.es.length - x27)/\((x38 <= x1.g.es.length)/\((((x27 : Int) + 1 = (x38 : Int))/\((0=0 /\ x1.g.n = x1.g.n)/\(((x23 : Int) = (x23 : Int))/\((decide ((x11 : Int) < (x1.src.length : Int)) = decide ((x11 : Int) < (x1.src.length : Int)))/\(((x1.src.length : Int) = (x1.src.length : Int))/\((0=0 /\ x1.src.length = x1.src.length)/\(((x11 : Int) = (x11 : Int))/\(((x11 : Int) = (x11 : Int))/\((decide ((x4 : Int) < (x1.g.n : Int)) = decide ((x4 : Int) < (x1.g.n : Int)))/\(((x1.g.n : Int) = (x1.g.n : Int))/\((0=0 /\ 0=0)/\(((x4 : Int) = (x4 : Int))/\(((x4 : Int) = (x4 : Int))/\(((x1.g.n : Int) = (x1.g.n : Int))/\((0=0 /\ 0=0)/\(True/\((0=0 /\ 0=0)/\((((x1.g.n : Int) = (x1.g.n : Int))/\((0=0 /\ x1.g.es.length = x1.g.es.length)/\True))/\((0=0 /\ x1.ts.length = x1.ts.length)/\((0=0 /\ x1.src.length = x1.src.length)/\True))))))))))))))))))))/\(((RLe x1.g.n x1.g.n)/\(RowsEq [.int .i64] x1.g.n (encL encI (roundAt (netF x1) (rounds (netF x1) (initL x1.g.n (isSrc x1.src)) x23) x27)) (encL encI (roundAt (netF x1) (rounds (netF x1) (initL x1.g.n (isSrc x1.src)) x23) x38))))/\((((x1.g.n : Int) = (x1.g.n : Int))/\((0=0 /\ x1.g.es.length = x1.g.es.length)/\True))/\(((RLe x1.g.es.length x1.g.es.length)/\(RowsEq [.int .i64, .int .i64, .int .i64] x1.g.es.length (encL encE x1.g.es) (encL encE x1.g.es)))/\(((RLe x1.ts.length x1.ts.length)/\(RowsEq [.int .i64] x1.ts.length (encL encI x1.ts) (encL encI x1.ts)))/\(((RLe x1.src.length x1.src.length)/\(RowsEq [.int .i64] x1.src.length (encL encI x1.src) (encL encI x1.src)))/\True))))))))))))))))))/\((decide ((roundAt (netF x1) (rounds (netF x1) (initL x1.g.n (isSrc x1.src)) x23) x27).getD (0 + Int.toNat (x1.g.es.getD (0 + Int.toNat (x27 : Int)) default).f) default < 4611686018427387904) = false)-> ((((-9223372036854775808 : Int) <= (x27 : Int) + 1)/\((x27 : Int) + 1 <= (9223372036854775807 : Int)))/\(∃ x40 : Nat, ((x1.g.es.length - x40 < x1.g.es.length - x27)/\((x40 <= x1.g.es.length)/\((((x27 : Int) + 1 = (x40 : Int))/\((0=0 /\ x1.g.n = x1.g.n)/\(((x23 : Int) = (x23 : Int))/\((decide ((x11 : Int) < (x1.src.length : Int)) = decide ((x11 : Int) < (x1.src.length : Int)))/\(((x1.src.length : Int) = (x1.src.length : Int))/\((0=0 /\ x1.src.length = x1.src.length)/\(((x11 : Int) = (x11 : Int))/\(((x11 : Int) = (x11 : Int))/\((decide ((x4 : Int) < (x1.g.n : Int)) = decide ((x4 : Int) < (x1.g.n : Int)))/\(((x1.g.n : Int) = (x1.g.n : Int))/\((0=0 /\ 0=0)/\(((x4 : Int) = (x4 : Int))/\(((x4 : Int) = (x4 : Int))/\(((x1.g.n : Int) = (x1.g.n : Int))/\((0=0 /\ 0=0)/\(True/\((0=0 /\ 0=0)/\((((x1.g.n : Int) = (x1.g.n : Int))/\((0=0 /\ x1.g.es.length = x1.g.es.length)/\True))/\((0=0 /\ x1.ts.length = x1.ts.length)/\((0=0 /\ x1.src.length = x1.src.length)/\True))))))))))))))))))))/\(((RLe x1.g.n x1.g.n)/\(RowsEq [.int .i64] x1.g.n (encL encI (roundAt (netF x1) (rounds (netF x1) (initL x1.g.n (isSrc x1.src)) x23) x27)) (encL encI (roundAt (netF x1) (rounds (netF x1) (initL x1.g.n (isSrc x1.src)) x23) x40))))/\((((x1.g.n : Int) = (x1.g.n : Int))/\((0=0 /\ x1.g.es.length = x1.g.es.length)/\True))/\(((RLe x1.g.es.length x1.g.es.length)/\(RowsEq [.int .i64, .int .i64, .int .i64] x1.g.es.length (encL encE x1.g.es) (encL encE x1.g.es)))/\(((RLe x1.ts.length x1.ts.length)/\(RowsEq [.int .i64] x1.ts.length (encL encI x1.ts) (encL encI x1.ts)))/\(((RLe x1.src.length x1.src.length)/\(RowsEq [.int .i64] x1.src.length (encL encI x1.src) (encL encI x1.src)))/\True)))))))))))))))))))/\((decide (tt x30.ts x30.i < (4611686018427387904 : Int)) = false)-> ((((-9223372036854775808 : Int) <= (x27 : Int) + 1)/\((x27 : Int) + 1 <= (9223372036854775807 : Int)))/\(∃ x42 : Nat, ((x1.g.es.length - x42 < x1.g.es.length - x27)/\((x42 <= x1.g.es.length)/\((((x27 : Int) + 1 = (x42 : Int))/\((0=0 /\ x1.g.n = x1.g.n)/\(((x23 : Int) = (x23 : Int))/\((decide ((x11 : Int) < (x1.src.length : Int)) = decide ((x11 : Int) < (x1.src.length : Int)))/\(((x1.src.length : Int) = (x1.src.length : Int))/\((0=0 /\ x1.src.length = x1.src.length)/\(((x11 : Int) = (x11 : Int))/\(((x11 : Int) = (x11 : Int))/\((decide ((x4 : Int) < (x1.g.n : Int)) = decide ((x4 : Int) < (x1.g.n : Int)))/\(((x1.g.n : Int) = (x1.g.n : Int))/\((0=0 /\ 0=0)/\(((x4 : Int) = (x4 : Int))/\(((x4 : Int) = (x4 : Int))/\(((x1.g.n : Int) = (x1.g.n : Int))/\((0=0 /\ 0=0)/\(True/\((0=0 /\ 0=0)/\((((x1.g.n : Int) = (x1.g.n : Int))/\((0=0 /\ x1.g.es.length = x1.g.es.length)/\True))/\((0=0 /\ x1.ts.length = x1.ts.length)/\((0=0 /\ x1.src.length = x1.src.length)/\True))))))))))))))))))))/\(((RLe x1.g.n x1.g.n)/\(RowsEq [.int .i64] x1.g.n (encL encI (roundAt (netF x1) (rounds (netF x1) (initL x1.g.n (isSrc x1.src)) x23) x27)) (encL encI (roundAt (netF x1) (rounds (netF x1) (initL x1.g.n (isSrc x1.src)) x23) x42))))/\((((x1.g.n : Int) = (x1.g.n : Int))/\((0=0 /\ x1.g.es.length = x1.g.es.length)/\True))/\(((RLe x1.g.es.length x1.g.es.length)/\(RowsEq [.int .i64, .int .i64, .int .i64] x1.g.es.length (encL encE x1.g.es) (encL encE x1.g.es)))/\(((RLe x1.ts.length x1.ts.length)/\(RowsEq [.int .i64] x1.ts.length (encL encI x1.ts) (encL encI x1.ts)))/\(((RLe x1.src.length x1.src.length)/\(RowsEq [.int .i64] x1.src.length (encL encI x1.src) (encL encI x1.src)))/\True)))))))))))))))))))))))/\((decide ((x27 : Int) < (x1.g.es.length : Int)) = false)-> ((((-9223372036854775808 : Int) <= (x23 : Int) + 1)/\((x23 : Int) + 1 <= (9223372036854775807 : Int)))/\(∃ x44 : Nat, ((x1.g.n - x44 < x1.g.n - x23)/\((x44 <= x1.g.n)/\((((x23 : Int) + 1 = (x44 : Int))/\((0=0 /\ x1.g.n = x1.g.n)/\((decide ((x11 : Int) < (x1.src.length : Int)) = decide ((x11 : Int) < (x1.src.length : Int)))/\(((x1.src.length : Int) = (x1.src.length : Int))/\((0=0 /\ x1.src.length = x1.src.length)/\(((x11 : Int) = (x11 : Int))/\(((x11 : Int) = (x11 : Int))/\((decide ((x4 : Int) < (x1.g.n : Int)) = decide ((x4 : Int) < (x1.g.n : Int)))/\(((x1.g.n : Int) = (x1.g.n : Int))/\((0=0 /\ 0=0)/\(((x4 : Int) = (x4 : Int))/\(((x4 : Int) = (x4 : Int))/\(((x1.g.n : Int) = (x1.g.n : Int))/\((0=0 /\ 0=0)/\(True/\((0=0 /\ 0=0)/\((((x1.g.n : Int) = (x1.g.n : Int))/\((0=0 /\ x1.g.es.length = x1.g.es.length)/\True))/\((0=0 /\ x1.ts.length = x1.ts.length)/\((0=0 /\ x1.src.length = x1.src.length)/\True)))))))))))))))))))/\(((RLe x1.g.n x1.g.n)/\(RowsEq [.int .i64] x1.g.n (encL encI (roundAt (netF x1) (rounds (netF x1) (initL x1.g.n (isSrc x1.src)) x23) x27)) (encL encI (rounds (netF x1) (initL x1.g.n (isSrc x1.src)) x44))))/\((((x1.g.n : Int) = (x1.g.n : Int))/\((0=0 /\ x1.g.es.length = x1.g.es.length)/\True))/\(((RLe x1.g.es.length x1.g.es.length)/\(RowsEq [.int .i64, .int .i64, .int .i64] x1.g.es.length (encL encE x1.g.es) (encL encE x1.g.es)))/\(((RLe x1.ts.length x1.ts.length)/\(RowsEq [.int .i64] x1.ts.length (encL encI x1.ts) (encL encI x1.ts)))/\(((RLe x1.src.length x1.src.length)/\(RowsEq [.int .i64] x1.src.length (encL encI x1.src) (encL encI x1.src)))/\True)))))))))))))))))/\((decide ((x23 : Int) < (x1.g.n : Int)) = false)-> ((0=0 /\ x1.g.n = x1.g.n)/\(((RLe x1.g.n x1.g.n)/\(RowsEq [.int .i64] x1.g.n (encL encI (rounds (netF x1) (initL x1.g.n (isSrc x1.src)) x23)) (encL encI (distG x1.g x1.ts x1.src true))))/\True)))))))))))))))))))))))) = (Keeps cfgQF Try.f28 qfromC qfromI) by kernel_rfl) (fun x1 => fun h2 => ⟨⟨(by omega),
(by omega),
(by (have := h2.n; have := h2.e; have := h2.g.m; omega))⟩,
((0 : Nat)),
⟨(by (try dsimp only at *); omega),
⟨(by (try dsimp only at *); omega),
⟨rfl,
(by (try dsimp only at *); omega)⟩,rfl,
⟨rfl,rfl⟩,trivial,
⟨rfl,rfl⟩,
⟨rfl,
⟨rfl,rfl⟩,trivial⟩,
⟨rfl,rfl⟩,
⟨rfl,rfl⟩,trivial⟩,
⟨⟨(by (try dsimp only at *); omega)⟩,
(by (try dsimp only at *); (rw [infAt_zero]; exact rows_zeroI rfl))⟩,
⟨rfl,
⟨rfl,rfl⟩,trivial⟩,
⟨⟨Nat.le_refl _⟩,RowsEq.rfl'⟩,
⟨⟨Nat.le_refl _⟩,RowsEq.rfl'⟩,
⟨⟨Nat.le_refl _⟩,RowsEq.rfl'⟩,trivial⟩,
fun x4 => fun h5 => ⟨fun g6 => have h6 := of_decide_eq_true g6; ⟨(default),trivial,trivial,trivial,
⟨(by (try dsimp only at *); omega),
(by (try dsimp only at *); omega)⟩,
⟨(by (try dsimp only at *); omega),trivial,trivial⟩,
⟨(by (try dsimp only at *); omega),
(by (try dsimp only at *); (have := h2.n; have := h2.e; have := h2.g.m; omega))⟩,
(x4 + (1 : Nat)),
(by (try dsimp only at *); omega),
(by (try dsimp only at *); omega),
⟨(by (try dsimp only at *); omega),
⟨rfl,rfl⟩,rfl,
⟨rfl,rfl⟩,trivial,
⟨rfl,rfl⟩,
⟨rfl,
⟨rfl,rfl⟩,trivial⟩,
⟨rfl,rfl⟩,
⟨rfl,rfl⟩,trivial⟩,
⟨⟨Nat.le_refl _⟩,
(by (try dsimp only at *); (simp only [Nat.zero_add, Int.toNat_natCast] at *; rw [infAt_succ (n := x1.g.n) (k := x4) (by omega)]; exact rows_setI (by rw [infAt_len]; omega)))⟩,
⟨rfl,
⟨rfl,rfl⟩,trivial⟩,
⟨⟨Nat.le_refl _⟩,RowsEq.rfl'⟩,
⟨⟨Nat.le_refl _⟩,RowsEq.rfl'⟩,
⟨⟨Nat.le_refl _⟩,RowsEq.rfl'⟩,trivial⟩,
fun g9 => have h9 := of_decide_eq_false g9; ⟨((0 : Nat)),
⟨(by (try dsimp only at *); omega),
⟨(by (try dsimp only at *); omega),
⟨rfl,rfl⟩,rfl,rfl,
⟨rfl,rfl⟩,rfl,rfl,rfl,
⟨rfl,rfl⟩,trivial,
⟨rfl,rfl⟩,
⟨rfl,
⟨rfl,rfl⟩,trivial⟩,
⟨rfl,rfl⟩,
⟨rfl,rfl⟩,trivial⟩,
⟨⟨Nat.le_refl _⟩,
(by (try dsimp only at *); (have e : x4 = x1.g.n := (by omega); rw [e, infAt_full]; exact RowsEq.rfl'))⟩,
⟨rfl,
⟨rfl,rfl⟩,trivial⟩,
⟨⟨Nat.le_refl _⟩,RowsEq.rfl'⟩,
⟨⟨Nat.le_refl _⟩,RowsEq.rfl'⟩,
⟨⟨Nat.le_refl _⟩,RowsEq.rfl'⟩,trivial⟩,
fun x11 => fun h12 => ⟨fun g13 => have h13 := of_decide_eq_true g13; ⟨⟨(by (try dsimp only at *); omega),
(by (try dsimp only at *); omega)⟩,
(by (try dsimp only at *); omega),
fun g14 => have h14 := of_decide_eq_true g14; ⟨⟨(by (try dsimp only at *); omega),
(by (try dsimp only at *); omega)⟩,
(by (try dsimp only at *); omega),
fun g15 => have h15 := of_decide_eq_true g15; ⟨⟨(by (try dsimp only at *); omega),
(by (try dsimp only at *); omega)⟩,
(by (try dsimp only at *); omega),
⟨(by (try dsimp only at *); omega),
(by (try dsimp only at *); omega)⟩,
⟨(by (try dsimp only at *); omega),trivial,trivial⟩,
⟨(by (try dsimp only at *); omega),
(by (try dsimp only at *); (have := h2.n; have := h2.e; have := h2.g.m; omega))⟩,
(x11 + (1 : Nat)),
(by (try dsimp only at *); omega),
(by (try dsimp only at *); omega),
⟨(by (try dsimp only at *); omega),
⟨rfl,rfl⟩,rfl,rfl,
⟨rfl,rfl⟩,rfl,rfl,rfl,
⟨rfl,rfl⟩,trivial,
⟨rfl,rfl⟩,
⟨rfl,
⟨rfl,rfl⟩,trivial⟩,
⟨rfl,rfl⟩,
⟨rfl,rfl⟩,trivial⟩,
⟨⟨Nat.le_refl _⟩,
(by (try dsimp only at *); (simp only [Nat.zero_add, Int.toNat_natCast] at *; rw [init_in (n := x1.g.n) (src := x1.src) (k := x11) (by omega) (by omega)]; exact rows_setI (by rw [initL_len]; omega)))⟩,
⟨rfl,
⟨rfl,rfl⟩,trivial⟩,
⟨⟨Nat.le_refl _⟩,RowsEq.rfl'⟩,
⟨⟨Nat.le_refl _⟩,RowsEq.rfl'⟩,
⟨⟨Nat.le_refl _⟩,RowsEq.rfl'⟩,trivial⟩,
fun g17 => have h17 := of_decide_eq_false g17; ⟨⟨(by (try dsimp only at *); omega),
(by (try dsimp only at *); (have := h2.n; have := h2.e; have := h2.g.m; omega))⟩,
(x11 + (1 : Nat)),
(by (try dsimp only at *); omega),
(by (try dsimp only at *); omega),
⟨(by (try dsimp only at *); omega),
⟨rfl,rfl⟩,rfl,rfl,
⟨rfl,rfl⟩,rfl,rfl,rfl,
⟨rfl,rfl⟩,trivial,
⟨rfl,rfl⟩,
⟨rfl,
⟨rfl,rfl⟩,trivial⟩,
⟨rfl,rfl⟩,
⟨rfl,rfl⟩,trivial⟩,
⟨⟨Nat.le_refl _⟩,
(by (try dsimp only at *); (simp only [Nat.zero_add, Int.toNat_natCast] at *; rw [init_out (n := x1.g.n) (src := x1.src) (k := x11) (by omega) (by omega)]; exact RowsEq.rfl'))⟩,
⟨rfl,
⟨rfl,rfl⟩,trivial⟩,
⟨⟨Nat.le_refl _⟩,RowsEq.rfl'⟩,
⟨⟨Nat.le_refl _⟩,RowsEq.rfl'⟩,
⟨⟨Nat.le_refl _⟩,RowsEq.rfl'⟩,trivial⟩⟩,
fun g19 => have h19 := of_decide_eq_false g19; ⟨⟨(by (try dsimp only at *); omega),
(by (try dsimp only at *); (have := h2.n; have := h2.e; have := h2.g.m; omega))⟩,
(x11 + (1 : Nat)),
(by (try dsimp only at *); omega),
(by (try dsimp only at *); omega),
⟨(by (try dsimp only at *); omega),
⟨rfl,rfl⟩,rfl,rfl,
⟨rfl,rfl⟩,rfl,rfl,rfl,
⟨rfl,rfl⟩,trivial,
⟨rfl,rfl⟩,
⟨rfl,
⟨rfl,rfl⟩,trivial⟩,
⟨rfl,rfl⟩,
⟨rfl,rfl⟩,trivial⟩,
⟨⟨Nat.le_refl _⟩,
(by (try dsimp only at *); (simp only [Nat.zero_add, Int.toNat_natCast] at *; rw [init_out (n := x1.g.n) (src := x1.src) (k := x11) (by omega) (by omega)]; exact RowsEq.rfl'))⟩,
⟨rfl,
⟨rfl,rfl⟩,trivial⟩,
⟨⟨Nat.le_refl _⟩,RowsEq.rfl'⟩,
⟨⟨Nat.le_refl _⟩,RowsEq.rfl'⟩,
⟨⟨Nat.le_refl _⟩,RowsEq.rfl'⟩,trivial⟩⟩,
fun g21 => have h21 := of_decide_eq_false g21; ⟨((0 : Nat)),
⟨(by (try dsimp only at *); omega),
⟨(by (try dsimp only at *); omega),
⟨rfl,rfl⟩,rfl,rfl,
⟨rfl,rfl⟩,rfl,rfl,rfl,rfl,
⟨rfl,rfl⟩,rfl,rfl,rfl,
⟨rfl,rfl⟩,trivial,
⟨rfl,rfl⟩,
⟨rfl,
⟨rfl,rfl⟩,trivial⟩,
⟨rfl,rfl⟩,
⟨rfl,rfl⟩,trivial⟩,
⟨⟨Nat.le_refl _⟩,
(by (try dsimp only at *); (rw [src_all ‹_› ‹_›]; exact RowsEq.rfl'))⟩,
⟨rfl,
⟨rfl,rfl⟩,trivial⟩,
⟨⟨Nat.le_refl _⟩,RowsEq.rfl'⟩,
⟨⟨Nat.le_refl _⟩,RowsEq.rfl'⟩,
⟨⟨Nat.le_refl _⟩,RowsEq.rfl'⟩,trivial⟩,
fun x23 => fun h24 => ⟨fun g25 => have h25 := of_decide_eq_true g25; ⟨((0 : Nat)),
⟨(by (try dsimp only at *); omega),
⟨(by (try dsimp only at *); omega),
⟨rfl,rfl⟩,rfl,rfl,rfl,
⟨rfl,rfl⟩,rfl,rfl,rfl,rfl,
⟨rfl,rfl⟩,rfl,rfl,rfl,
⟨rfl,rfl⟩,trivial,
⟨rfl,rfl⟩,
⟨rfl,
⟨rfl,rfl⟩,trivial⟩,
⟨rfl,rfl⟩,
⟨rfl,rfl⟩,trivial⟩,
⟨⟨Nat.le_refl _⟩,
(by (try dsimp only at *); exact RowsEq.rfl')⟩,
⟨rfl,
⟨rfl,rfl⟩,trivial⟩,
⟨⟨Nat.le_refl _⟩,RowsEq.rfl'⟩,
⟨⟨Nat.le_refl _⟩,RowsEq.rfl'⟩,
⟨⟨Nat.le_refl _⟩,RowsEq.rfl'⟩,trivial⟩,
fun x27 => fun h28 => ⟨fun g29 => have h29 := of_decide_eq_true g29; ⟨⟨(by (try dsimp only at *); omega),
(by (try dsimp only at *); omega)⟩,
(by (try dsimp only at *); omega),
({ ts := FX.ts x1, i := x27 : TX }),
(by (try dsimp only at *); (have := h2.n; have := h2.e; have := h2.g.m; omega)),
⟨⟨rfl,rfl⟩,rfl,trivial⟩,
⟨⟨⟨Nat.le_refl _⟩,RowsEq.rfl'⟩,trivial⟩,
(default),trivial,trivial,trivial,
fun g32 => have h32 := of_decide_eq_true g32; ⟨⟨(by (try dsimp only at *); (simp only [Nat.zero_add, Int.toNat_natCast] at *; have := h2.g.e _ (show x27 < x1.g.es.length by omega); unfold edOk at this; omega)),
(by (try dsimp only at *); (simp only [Nat.zero_add, Int.toNat_natCast] at *; have := h2.g.e _ (show x27 < x1.g.es.length by omega); unfold edOk at this; omega))⟩,
(by (try dsimp only at *); (simp only [Nat.zero_add, Int.toNat_natCast] at *; have := h2.g.e _ (show x27 < x1.g.es.length by omega); unfold edOk at this; omega)),
(default),trivial,trivial,trivial,
fun g34 => have h34 := of_decide_eq_true g34; ⟨⟨(by (try dsimp only at *); (simp only [Nat.zero_add, Int.toNat_natCast] at *; have := h2.g.e _ (show x27 < x1.g.es.length by omega); unfold edOk at this; omega)),
(by (try dsimp only at *); (simp only [Nat.zero_add, Int.toNat_natCast] at *; have := h2.g.e _ (show x27 < x1.g.es.length by omega); unfold edOk at this; omega))⟩,
(by (try dsimp only at *); (simp only [Nat.zero_add, Int.toNat_natCast] at *; have := h2.g.e _ (show x27 < x1.g.es.length by omega); unfold edOk at this; omega)),
⟨(by (try dsimp only at *); (simp only [Nat.zero_add, Int.toNat_natCast] at *; have q := h2.g.e _ (show x27 < x1.g.es.length by omega); unfold edOk at q; have := nn_at h2 x23 h28 (show (x1.g.es.getD x27 default).f.toNat < x1.g.n by omega); have := tt_ok x1.ts x27; unfold INF at this; omega)),
(by (try dsimp only at *); omega)⟩,
⟨(by (try dsimp only at *); (simp only [Nat.zero_add, Int.toNat_natCast] at *; have := h2.g.e _ (show x27 < x1.g.es.length by omega); unfold edOk at this; omega)),
(by (try dsimp only at *); (simp only [Nat.zero_add, Int.toNat_natCast] at *; have := h2.g.e _ (show x27 < x1.g.es.length by omega); unfold edOk at this; omega))⟩,
(by (try dsimp only at *); (simp only [Nat.zero_add, Int.toNat_natCast] at *; have := h2.g.e _ (show x27 < x1.g.es.length by omega); unfold edOk at this; omega)),
fun g35 => have h35 := of_decide_eq_true g35; ⟨⟨(by (try dsimp only at *); (simp only [Nat.zero_add, Int.toNat_natCast] at *; have := h2.g.e _ (show x27 < x1.g.es.length by omega); unfold edOk at this; omega)),
(by (try dsimp only at *); (simp only [Nat.zero_add, Int.toNat_natCast] at *; have := h2.g.e _ (show x27 < x1.g.es.length by omega); unfold edOk at this; omega))⟩,
(by (try dsimp only at *); (simp only [Nat.zero_add, Int.toNat_natCast] at *; have := h2.g.e _ (show x27 < x1.g.es.length by omega); unfold edOk at this; omega)),
⟨(by (try dsimp only at *); (simp only [Nat.zero_add, Int.toNat_natCast] at *; have q := h2.g.e _ (show x27 < x1.g.es.length by omega); unfold edOk at q; have := nn_at h2 x23 h28 (show (x1.g.es.getD x27 default).f.toNat < x1.g.n by omega); have := tt_ok x1.ts x27; unfold INF at this; omega)),
(by (try dsimp only at *); omega)⟩,
⟨(by (try dsimp only at *); (simp only [Nat.zero_add, Int.toNat_natCast] at *; have := h2.g.e _ (show x27 < x1.g.es.length by omega); unfold edOk at this; omega)),
(by (try dsimp only at *); (simp only [Nat.zero_add, Int.toNat_natCast] at *; have := h2.g.e _ (show x27 < x1.g.es.length by omega); unfold edOk at this; omega))⟩,
⟨(by (try dsimp only at *); (simp only [Nat.zero_add, Int.toNat_natCast] at *; have := h2.g.e _ (show x27 < x1.g.es.length by omega); unfold edOk at this; omega)),trivial,trivial⟩,
⟨(by (try dsimp only at *); omega),
(by (try dsimp only at *); (have := h2.n; have := h2.e; have := h2.g.m; omega))⟩,
(x27 + (1 : Nat)),
(by (try dsimp only at *); omega),
(by (try dsimp only at *); omega),
⟨(by (try dsimp only at *); omega),
⟨rfl,rfl⟩,rfl,rfl,rfl,
⟨rfl,rfl⟩,rfl,rfl,rfl,rfl,
⟨rfl,rfl⟩,rfl,rfl,rfl,
⟨rfl,rfl⟩,trivial,
⟨rfl,rfl⟩,
⟨rfl,
⟨rfl,rfl⟩,trivial⟩,
⟨rfl,rfl⟩,
⟨rfl,rfl⟩,trivial⟩,
⟨⟨Nat.le_refl _⟩,
(by (try dsimp only at *); (simp only [Nat.zero_add, Int.toNat_natCast] at *; have q := h2.g.e _ (show x27 < x1.g.es.length by omega); unfold edOk at q; rw [roundAt_succ, relax_yes ‹_› ‹_› ‹_› ‹_›]; exact rows_setI (by rw [(netF_rl h2 x23 h28).len]; show _ < x1.g.n; omega)))⟩,
⟨rfl,
⟨rfl,rfl⟩,trivial⟩,
⟨⟨Nat.le_refl _⟩,RowsEq.rfl'⟩,
⟨⟨Nat.le_refl _⟩,RowsEq.rfl'⟩,
⟨⟨Nat.le_refl _⟩,RowsEq.rfl'⟩,trivial⟩,
fun g37 => have h37 := of_decide_eq_false g37; ⟨⟨(by (try dsimp only at *); omega),
(by (try dsimp only at *); (have := h2.n; have := h2.e; have := h2.g.m; omega))⟩,
(x27 + (1 : Nat)),
(by (try dsimp only at *); omega),
(by (try dsimp only at *); omega),
⟨(by (try dsimp only at *); omega),
⟨rfl,rfl⟩,rfl,rfl,rfl,
⟨rfl,rfl⟩,rfl,rfl,rfl,rfl,
⟨rfl,rfl⟩,rfl,rfl,rfl,
⟨rfl,rfl⟩,trivial,
⟨rfl,rfl⟩,
⟨rfl,
⟨rfl,rfl⟩,trivial⟩,
⟨rfl,rfl⟩,
⟨rfl,rfl⟩,trivial⟩,
⟨⟨Nat.le_refl _⟩,
(by (try dsimp only at *); (simp only [Nat.zero_add, Int.toNat_natCast] at *; rw [roundAt_succ, relax_no3 ‹_› ‹_›]; exact RowsEq.rfl'))⟩,
⟨rfl,
⟨rfl,rfl⟩,trivial⟩,
⟨⟨Nat.le_refl _⟩,RowsEq.rfl'⟩,
⟨⟨Nat.le_refl _⟩,RowsEq.rfl'⟩,
⟨⟨Nat.le_refl _⟩,RowsEq.rfl'⟩,trivial⟩⟩,
fun g39 => have h39 := of_decide_eq_false g39; ⟨⟨(by (try dsimp only at *); omega),
(by (try dsimp only at *); (have := h2.n; have := h2.e; have := h2.g.m; omega))⟩,
(x27 + (1 : Nat)),
(by (try dsimp only at *); omega),
(by (try dsimp only at *); omega),
⟨(by (try dsimp only at *); omega),
⟨rfl,rfl⟩,rfl,rfl,rfl,
⟨rfl,rfl⟩,rfl,rfl,rfl,rfl,
⟨rfl,rfl⟩,rfl,rfl,rfl,
⟨rfl,rfl⟩,trivial,
⟨rfl,rfl⟩,
⟨rfl,
⟨rfl,rfl⟩,trivial⟩,
⟨rfl,rfl⟩,
⟨rfl,rfl⟩,trivial⟩,
⟨⟨Nat.le_refl _⟩,
(by (try dsimp only at *); (simp only [Nat.zero_add, Int.toNat_natCast] at *; rw [roundAt_succ, relax_no2 ‹_› ‹_›]; exact RowsEq.rfl'))⟩,
⟨rfl,
⟨rfl,rfl⟩,trivial⟩,
⟨⟨Nat.le_refl _⟩,RowsEq.rfl'⟩,
⟨⟨Nat.le_refl _⟩,RowsEq.rfl'⟩,
⟨⟨Nat.le_refl _⟩,RowsEq.rfl'⟩,trivial⟩⟩,
fun g41 => have h41 := of_decide_eq_false g41; ⟨⟨(by (try dsimp only at *); omega),
(by (try dsimp only at *); (have := h2.n; have := h2.e; have := h2.g.m; omega))⟩,
(x27 + (1 : Nat)),
(by (try dsimp only at *); omega),
(by (try dsimp only at *); omega),
⟨(by (try dsimp only at *); omega),
⟨rfl,rfl⟩,rfl,rfl,rfl,
⟨rfl,rfl⟩,rfl,rfl,rfl,rfl,
⟨rfl,rfl⟩,rfl,rfl,rfl,
⟨rfl,rfl⟩,trivial,
⟨rfl,rfl⟩,
⟨rfl,
⟨rfl,rfl⟩,trivial⟩,
⟨rfl,rfl⟩,
⟨rfl,rfl⟩,trivial⟩,
⟨⟨Nat.le_refl _⟩,
(by
       (rw [roundAt_succ, relax_no1 (x := x1) (j := x27) h29 h41]; exact RowsEq.rfl'))⟩,
⟨rfl,
⟨rfl,rfl⟩,trivial⟩,
⟨⟨Nat.le_refl _⟩,RowsEq.rfl'⟩,
⟨⟨Nat.le_refl _⟩,RowsEq.rfl'⟩,
⟨⟨Nat.le_refl _⟩,RowsEq.rfl'⟩,trivial⟩⟩,
fun g43 => have h43 := of_decide_eq_false g43; ⟨⟨(by (try dsimp only at *); omega),
(by (try dsimp only at *); (have := h2.n; have := h2.e; have := h2.g.m; omega))⟩,
(x23 + (1 : Nat)),
(by (try dsimp only at *); omega),
(by (try dsimp only at *); omega),
⟨(by (try dsimp only at *); omega),
⟨rfl,rfl⟩,rfl,rfl,
⟨rfl,rfl⟩,rfl,rfl,rfl,rfl,
⟨rfl,rfl⟩,rfl,rfl,rfl,
⟨rfl,rfl⟩,trivial,
⟨rfl,rfl⟩,
⟨rfl,
⟨rfl,rfl⟩,trivial⟩,
⟨rfl,rfl⟩,
⟨rfl,rfl⟩,trivial⟩,
⟨⟨Nat.le_refl _⟩,
(by (try dsimp only at *); (have e : x27 = x1.g.es.length := (by omega); rw [e, rounds_succ]; exact RowsEq.rfl'))⟩,
⟨rfl,
⟨rfl,rfl⟩,trivial⟩,
⟨⟨Nat.le_refl _⟩,RowsEq.rfl'⟩,
⟨⟨Nat.le_refl _⟩,RowsEq.rfl'⟩,
⟨⟨Nat.le_refl _⟩,RowsEq.rfl'⟩,trivial⟩⟩⟩,
fun g45 => have h45 := of_decide_eq_false g45; ⟨⟨rfl,rfl⟩,
⟨⟨Nat.le_refl _⟩,
(by (try dsimp only at *); (have e : x23 = x1.g.n := (by omega); rw [e]; exact RowsEq.rfl'))⟩,trivial⟩⟩⟩⟩⟩⟩⟩)
theorem qfrom_good : Good Try.prog 28 qfromC /\ FnOk Try.prog 28 := good_of tok conQF (fn := Try.f28) rfl (by decide +kernel) (fun _ => rfl) qfrom_keeps
end Go.Sym